/- Part 3. -/
import Derived.Test.YtjamfkpgmkhbnaaGreatDoorQFnSourceWords1
set_option maxHeartbeats 8000000
set_option maxRecDepth 100000
namespace Go.Proofs.YtjamfkpgmkhbnaaGreatDoor.PA
open Go.RowKit Go.Proofs.YtjamfkpgmkhbnaaGreatDoorW.PrintWords Go.Proofs.YtjamfkpgmkhbnaaGreatDoorW.PrintLast Go.Proofs.YtjamfkpgmkhbnaaGreatDoorW.PrintMore
attribute [local go_sem] max2_int min2_int max_two min_two max_three min_three max_four min_four
set_option linter.unusedVariables false
set_option linter.unusedSimpArgs false
theorem bQ.mono_l:∀ k,(∀ y0,LeO (bQ.f k y0) (bQ.f (k + 1) y0))∧(∀ y0 y1 y2,LeO (bQ.l0 k y0 y1 y2) (bQ.l0 (k + 1) y0 y1 y2))
 |0=>⟨fun _ r h=>by simp [bQ.f] at h,fun _ _ _ r h=>by simp [bQ.l0] at h⟩
 |k + 1=>by
  obtain ⟨ih0,ih1⟩:=bQ.mono_l k
  refine ⟨?_,?_⟩
  ·intro y0
   unfold bQ.f
   exact mo_
  ·intro y0 y1 y2
   unfold bQ.l0
   exact mo_
theorem bQ.mono:∀ a0 k,LeO (bQ.f k a0) (bQ.f (k + 1) a0):=by
 intro a0 k
 obtain ⟨ih0,ih1⟩:=bQ.mono_l k
 exact ih0 a0
def bQ.T5:Bool × List (List Nat × List Nat):=(true,[([],[]),([0],[0]),([],[]),([],[]),([2,3],[2,3]),([4],[4]),([5],[5]),([6],[6]),([1,7],[1,7]),([],[]),([],[]),([9,10],[9,10]),([11],[11]),([12],[12]),([13,7],[13]),([8,14],[8,14]),([15,14,0,1,2,3,4,5,6,7,8,9,10,11,12,13,14,15],[0,15])])
def bQ.B5:List Nat:=[0,1,0,0,12,28,60,124,255,0,0,1536,3584,7680,16124,32767,65535]
theorem bQ.SS:lV .any (opsOf Tryz.f71 5)=bQ.T5:=by kernel_rfl
theorem bQ.FN:iP bQ.T5.2 bQ.B5=true:=by kernel_rfl
theorem bQ.calls (k:Nat):∀ (A0:Option Addr) (c0:Nat) (l0:List (S58)) (r:Int) (w:World) (hr0:Kd.C k58 w A0 l0.length l0) (hc0:l0.length≤c0) (h:bQ.f k l0=some r),
  Calls Tryz.prog 71 #[.slice A0 l0.length c0] w fun e w'=>e= .returned (.int .i64 r)∧Below w.heap.size w w':=by
 induction k using Nat.strongRecOn with
 | _ k ih=>
 intro A0 c0 l0 r w hr0 hc0 h
 cases k with
 |zero=>exact absurd h (by simp [bQ.f])
 |succ k=>
 simp only [bQ.f] at h
 have jL:=am hr0
 have jX:=am hc0
 clear hr0 hc0
 have HB:=am (Below.refl w.heap.size w)
 have H:(bQ.l0 k l0 0 0)=some r:=h
 clear h
 have H':=am H
 clear H
 go_enter Tryz.func71,Tryz.ntmps71
 go_wp2
 go_loopg [3,4] k (fun kq v3 v4 w'=>∃ (jr:Int) (j3:Int),v3= .int .i64 jr∧v4= .int .i64 j3∧Aside0 (bQ.l0 kq l0 jr j3=some r)∧Aside0 (kq≤k)∧Aside0 (Below w.heap.size w w'))
 case atStart=>exact ⟨(0),(0),sd_,sd_,H',⟨Nat.le_refl _⟩,⟨dU⟩⟩
 case round=>
  clear H'
  obtain ⟨jr,j3,rfl,rfl,HA,jA,HB⟩:=hrel
  cases gk with
  |zero=>exact absurd HA.out (by simp [bQ.l0])
  |succ k1=>
   have H:=HA.out
   clear HA
   simp only [bQ.l0] at H
   by_cases c2:j3 < (l0.length:Int)
   ·rw [if_pos c2] at H
    have jB:decide (j3 < (l0.length:Int))=true:=decide_eq_true c2
    clear c2
    by_cases c3:0≤j3
    ·rw [if_pos c3] at H
     have jU:decide (0≤j3)=true:=decide_eq_true c3
     clear c3
     obtain ⟨jM,A4,H⟩:=bsa H
     (try dsimp only at H)
     obtain ⟨jN,A5,H⟩:=bsa H
     (try dsimp only at H)
     have H':=am H
     clear H
     try go_wp2
     replace HB:=am (bJ HB.out)
     have jC:0≤(j3:Int):=of_decide_eq_true eB
     have jD:j3 < (l0.length:Int):=of_decide_eq_true eB
     obtain ⟨j4,js,jt,jl,jm,jn,jo,jV,jb,jc,jd,je,jf,j5,j6,j7,hl30_5,hi30_5,hl30_6,hi30_6,hl30_7,hi30_7⟩:=oQ jL.out j3 jC jD
     have hw30_7:=j7
     have hw30_6:=j6
     have hw30_5:=j5
     have hw30_4:=jf
     have hw30_3:=je
     have hw30_2:=jd
     have hw30_1:=jc
     have hw30_0:=jb
     cases jV
     replace jb:=(HB.out.cell (World.block_lt_of_cell? w _ jb)).trans jb
     replace jc:=(HB.out.cell (World.block_lt_of_cell? w _ jc)).trans jc
     replace jd:=(HB.out.cell (World.block_lt_of_cell? w _ jd)).trans jd
     replace je:=(HB.out.cell (World.block_lt_of_cell? w _ je)).trans je
     replace jf:=(HB.out.cell (World.block_lt_of_cell? w _ jf)).trans jf
     replace j5:=(HB.out.cell (World.block_lt_of_cell? w _ j5)).trans j5
     replace j6:=(HB.out.cell (World.block_lt_of_cell? w _ j6)).trans j6
     replace j7:=(HB.out.cell (World.block_lt_of_cell? w _ j7)).trans j7
     have ju:=am hi30_5
     have jE:=am hl30_5
     clear hi30_5 hl30_5
     have jp:=am hi30_6
     have jv:=am hl30_6
     clear hi30_6 hl30_6
     have jw:=am hi30_7
     have jF:=am hl30_7
     clear hi30_7 hl30_7
     replace jC:=eq_true jC
     replace jD:=eq_true jD
     have jG:0≤(j3:Int):=of_decide_eq_true eB
     have jH:j3 < (l0.length:Int):=of_decide_eq_true eB
     obtain ⟨jI,jO,jP,jQ,jR,jS,jT,jW,jg,jh,ji,jj,jk,j8,j9,ja,hl31_5,hi31_5,hl31_6,hi31_6,hl31_7,hi31_7⟩:=oQ jL.out j3 jG jH
     have hw31_7:=ja
     have hw31_6:=j9
     have hw31_5:=j8
     have hw31_4:=jk
     have hw31_3:=jj
     have hw31_2:=ji
     have hw31_1:=jh
     have hw31_0:=jg
     obtain rfl:j4=jI:=(by injection jW)
     replace jg:=(HB.out.cell (World.block_lt_of_cell? w _ jg)).trans jg
     replace jh:=(HB.out.cell (World.block_lt_of_cell? w _ jh)).trans jh
     replace ji:=(HB.out.cell (World.block_lt_of_cell? w _ ji)).trans ji
     replace jj:=(HB.out.cell (World.block_lt_of_cell? w _ jj)).trans jj
     replace jk:=(HB.out.cell (World.block_lt_of_cell? w _ jk)).trans jk
     replace j8:=(HB.out.cell (World.block_lt_of_cell? w _ j8)).trans j8
     replace j9:=(HB.out.cell (World.block_lt_of_cell? w _ j9)).trans j9
     replace ja:=(HB.out.cell (World.block_lt_of_cell? w _ ja)).trans ja
     have jx:=am hi31_5
     have jJ:=am hl31_5
     clear hi31_5 hl31_5
     have jy:=am hi31_6
     have jK:=am hl31_6
     clear hi31_6 hl31_6
     have jq:=am hi31_7
     have jz:=am hl31_7
     clear hi31_7 hl31_7
     replace jG:=eq_true jG
     replace jH:=eq_true jH
     have ea_:=Option.some.inj (j5.symm.trans j8)
     injection ea_ with ea_ en_ ec_
     subst ea_
     subst ec_
     clear en_
     have ea_:=Option.some.inj (j6.symm.trans j9)
     injection ea_ with ea_ en_ ec_
     subst ea_
     subst ec_
     clear en_
     have ea_:=Option.some.inj (j7.symm.trans ja)
     injection ea_ with ea_ en_ ec_
     subst ea_
     subst ec_
     clear en_
     refine kZ (n:=17) (S:=fun w'=>w'.cell? (j4.add ((j3).toNat * 8))=some (.int .i64 ((aH l0 j3).f0))∧w'.cell? ⟨(j4.add ((j3).toNat * 8)).block,(j4.add ((j3).toNat * 8)).off + 1,none⟩=some (.int .i64 ((aH l0 j3).f1))∧w'.cell? ⟨(j4.add ((j3).toNat * 8)).block,(j4.add ((j3).toNat * 8)).off + 2,none⟩=some (.int .i64 ((aH l0 j3).f2))∧w'.cell? ⟨(j4.add ((j3).toNat * 8)).block,(j4.add ((j3).toNat * 8)).off + 3,none⟩=some (.int .i64 ((aH l0 j3).f3.f0))∧w'.cell? ⟨(j4.add ((j3).toNat * 8)).block,(j4.add ((j3).toNat * 8)).off + 4,none⟩=some (.int .i64 ((aH l0 j3).f3.f1))∧w'.cell? ⟨(j4.add ((j3).toNat * 8)).block,(j4.add ((j3).toNat * 8)).off + 5,none⟩=some (.slice js ((aH l0 j3).f3.f2).length jt)∧w'.cell? ⟨(j4.add ((j3).toNat * 8)).block,(j4.add ((j3).toNat * 8)).off + 6,none⟩=some (.slice jl ((aH l0 j3).f4).length jm)∧w'.cell? ⟨(j4.add ((j3).toNat * 8)).block,(j4.add ((j3).toNat * 8)).off + 7,none⟩=some (.slice jn ((aH l0 j3).f5).length jo)∧w'.cell? (j4.add ((j3).toNat * 8))=some (.int .i64 ((aH l0 j3).f0))∧w'.cell? ⟨(j4.add ((j3).toNat * 8)).block,(j4.add ((j3).toNat * 8)).off + 1,none⟩=some (.int .i64 ((aH l0 j3).f1))∧w'.cell? ⟨(j4.add ((j3).toNat * 8)).block,(j4.add ((j3).toNat * 8)).off + 2,none⟩=some (.int .i64 ((aH l0 j3).f2))∧w'.cell? ⟨(j4.add ((j3).toNat * 8)).block,(j4.add ((j3).toNat * 8)).off + 3,none⟩=some (.int .i64 ((aH l0 j3).f3.f0))∧w'.cell? ⟨(j4.add ((j3).toNat * 8)).block,(j4.add ((j3).toNat * 8)).off + 4,none⟩=some (.int .i64 ((aH l0 j3).f3.f1))∧w'.cell? ⟨(j4.add ((j3).toNat * 8)).block,(j4.add ((j3).toNat * 8)).off + 5,none⟩=some (.slice js ((aH l0 j3).f3.f2).length jt)∧w'.cell? ⟨(j4.add ((j3).toNat * 8)).block,(j4.add ((j3).toNat * 8)).off + 6,none⟩=some (.slice jl ((aH l0 j3).f4).length jm)∧w'.cell? ⟨(j4.add ((j3).toNat * 8)).block,(j4.add ((j3).toNat * 8)).off + 7,none⟩=some (.slice jn ((aH l0 j3).f5).length jo)) (ds:=[]) (bz 17 0) (by kernel_rfl) rfl rfl ⟨((HB.out.cell (World.block_lt_of_cell? w _ hw30_0)).trans hw30_0),((HB.out.cell (World.block_lt_of_cell? w _ hw30_1)).trans hw30_1),((HB.out.cell (World.block_lt_of_cell? w _ hw30_2)).trans hw30_2),((HB.out.cell (World.block_lt_of_cell? w _ hw30_3)).trans hw30_3),((HB.out.cell (World.block_lt_of_cell? w _ hw30_4)).trans hw30_4),((HB.out.cell (World.block_lt_of_cell? w _ hw30_5)).trans hw30_5),((HB.out.cell (World.block_lt_of_cell? w _ hw30_6)).trans hw30_6),((HB.out.cell (World.block_lt_of_cell? w _ hw30_7)).trans hw30_7),((HB.out.cell (World.block_lt_of_cell? w _ hw31_0)).trans hw31_0),((HB.out.cell (World.block_lt_of_cell? w _ hw31_1)).trans hw31_1),((HB.out.cell (World.block_lt_of_cell? w _ hw31_2)).trans hw31_2),((HB.out.cell (World.block_lt_of_cell? w _ hw31_3)).trans hw31_3),((HB.out.cell (World.block_lt_of_cell? w _ hw31_4)).trans hw31_4),((HB.out.cell (World.block_lt_of_cell? w _ hw31_5)).trans hw31_5),((HB.out.cell (World.block_lt_of_cell? w _ hw31_6)).trans hw31_6),((HB.out.cell (World.block_lt_of_cell? w _ hw31_7)).trans hw31_7)⟩ (fun hHeld=>?_);refine iA bQ.SS bQ.FN (fun HT_ HW_=>?_)
     generalize wr.drew=w6 at HB ju jp jw jx jy jq jb jc jd je jf j5 j6 j7 jg jh ji jj jk j8 j9 ja hHeld ⊢
     refine pr_ 0 11 (bz 17 1) HT_ ?_
     refine pr_ 1 12 (bz 17 3) HT_ ?_
     refine pr_ 2 13 (bz 17 7) HT_ ?_
     refine pr_ 3 14 (bz 17 15) HT_ ?_
     refine pr_ 4 15 (bz 17 31) HT_ ?_
     refine pr_ 5 16 (bz 17 63) HT_ ?_
     refine pr_ 9 20 (bz 17 575) HT_ ?_
     refine pr_ 10 21 (bz 17 1599) HT_ ?_
     refine pr_ 11 22 (bz 17 3647) HT_ ?_
     refine pr_ 12 23 (bz 17 7743) HT_ ?_
     refine NY 6 17 (bz 17 7807) HT_ HW_ hHeld ?_
     refine NY 13 24 (bz 17 15999) HT_ HW_ hHeld ?_
     refine gY (i:=7) (N:=some 18) (bz 17 16127) rfl rfl (eG HT_.out (by kernel_rfl)) (by decide) (fun K hK=>?_)
     refine iF Tryz.func71 (by kernel_rfl) rfl #[.slice jl ((aH l0 j3).f4).length jm] (by rfl) rfl rfl mD ?_
     with_reducible refine (ih k1 (by have:=jA.out;omega) _ _ ((aH l0 j3).f4) jM _ (aC_ (Kd.aT jp.out HB.out)) jv.out A4.out).mono ?_
     rintro e w7 ⟨rfl,hb⟩
     refine ⟨_,rfl,?_⟩
     replace HB:=am (aA dU hb)
     (try clear hb)
     (try clear hb2)
     (try clear hk)
     (try clear hi)
     refine hK.out _ _ ⟨((HB.out.cell (World.block_lt_of_cell? w _ hw30_0)).trans hw30_0),((HB.out.cell (World.block_lt_of_cell? w _ hw30_1)).trans hw30_1),((HB.out.cell (World.block_lt_of_cell? w _ hw30_2)).trans hw30_2),((HB.out.cell (World.block_lt_of_cell? w _ hw30_3)).trans hw30_3),((HB.out.cell (World.block_lt_of_cell? w _ hw30_4)).trans hw30_4),((HB.out.cell (World.block_lt_of_cell? w _ hw30_5)).trans hw30_5),((HB.out.cell (World.block_lt_of_cell? w _ hw30_6)).trans hw30_6),((HB.out.cell (World.block_lt_of_cell? w _ hw30_7)).trans hw30_7),((HB.out.cell (World.block_lt_of_cell? w _ hw31_0)).trans hw31_0),((HB.out.cell (World.block_lt_of_cell? w _ hw31_1)).trans hw31_1),((HB.out.cell (World.block_lt_of_cell? w _ hw31_2)).trans hw31_2),((HB.out.cell (World.block_lt_of_cell? w _ hw31_3)).trans hw31_3),((HB.out.cell (World.block_lt_of_cell? w _ hw31_4)).trans hw31_4),((HB.out.cell (World.block_lt_of_cell? w _ hw31_5)).trans hw31_5),((HB.out.cell (World.block_lt_of_cell? w _ hw31_6)).trans hw31_6),((HB.out.cell (World.block_lt_of_cell? w _ hw31_7)).trans hw31_7)⟩ (fun hHeld=>?_)
     clear hK K
     refine eZ (a':=?_) ?_ ?_
     rotate_left
     ·exact ap_ (N:=18)
     refine pr_ 8 19 (bz 17 16383) HT_ ?_
     refine gY (i:=14) (N:=some 25) (bz 17 32767) rfl rfl (eG HT_.out (by kernel_rfl)) (by decide) (fun K hK=>?_)
     refine iF Tryz.func71 (by kernel_rfl) rfl #[.slice jn ((aH l0 j3).f5).length jo] (by rfl) rfl rfl mD ?_
     with_reducible refine (ih k1 (by have:=jA.out;omega) _ _ ((aH l0 j3).f5) jN _ (aC_ (Kd.aT jq.out HB.out)) jz.out A5.out).mono ?_
     rintro e w8 ⟨rfl,hb⟩
     refine ⟨_,rfl,?_⟩
     replace HB:=am (aA dU hb)
     (try clear hb)
     (try clear hb2)
     (try clear hk)
     (try clear hi)
     refine hK.out _ _ ⟨((HB.out.cell (World.block_lt_of_cell? w _ hw30_0)).trans hw30_0),((HB.out.cell (World.block_lt_of_cell? w _ hw30_1)).trans hw30_1),((HB.out.cell (World.block_lt_of_cell? w _ hw30_2)).trans hw30_2),((HB.out.cell (World.block_lt_of_cell? w _ hw30_3)).trans hw30_3),((HB.out.cell (World.block_lt_of_cell? w _ hw30_4)).trans hw30_4),((HB.out.cell (World.block_lt_of_cell? w _ hw30_5)).trans hw30_5),((HB.out.cell (World.block_lt_of_cell? w _ hw30_6)).trans hw30_6),((HB.out.cell (World.block_lt_of_cell? w _ hw30_7)).trans hw30_7),((HB.out.cell (World.block_lt_of_cell? w _ hw31_0)).trans hw31_0),((HB.out.cell (World.block_lt_of_cell? w _ hw31_1)).trans hw31_1),((HB.out.cell (World.block_lt_of_cell? w _ hw31_2)).trans hw31_2),((HB.out.cell (World.block_lt_of_cell? w _ hw31_3)).trans hw31_3),((HB.out.cell (World.block_lt_of_cell? w _ hw31_4)).trans hw31_4),((HB.out.cell (World.block_lt_of_cell? w _ hw31_5)).trans hw31_5),((HB.out.cell (World.block_lt_of_cell? w _ hw31_6)).trans hw31_6),((HB.out.cell (World.block_lt_of_cell? w _ hw31_7)).trans hw31_7)⟩ (fun hHeld=>?_)
     clear hK K
     refine eZ (a':=?_) ?_ ?_
     rotate_left
     ·exact ap_ (N:=25)
     refine pr_ 15 26 (bz 17 65535) HT_ ?_
     refine pr_ 16 3 (bz 17 131071) HT_ ?_
     refine nA (kS HT_.out (by kernel_rfl)) ?_
     try go_wp2
     go_roundg k1
     case measure=>have:=jA.out;omega
     case rel=>exact ⟨(wrap64 ((wrap64 ((wrap64 (jr + 1)) + jM)) + jN)),(wrap64 (j3 + 1)),sd_,sd_,H',⟨by have:=jA.out;omega⟩,⟨dU⟩⟩
    rw [if_neg c3] at H
    exact absurd H (by simp)
   rw [if_neg c2] at H
   have jB:decide (j3 < (l0.length:Int))=false:=decide_eq_false c2
   clear c2
   obtain rfl:=Option.some.inj H
   go_wp2
   go_ret
   exact ⟨rr_,dU⟩
def dV.T3:Bool × List (List Nat × List Nat):=(true,[([],[]),([],[]),([],[]),([],[]),([],[]),([4],[4]),([],[]),([6],[6]),([],[]),([2,3,5,7,8,7],[2,3,5,7,8]),([0,1,9],[0,1,9]),([10,9,0,1,2,3,4,5,6,7,8,9,10],[10])])
def dV.B3:List Nat:=[0,0,0,0,0,16,0,64,0,508,1023,2047]
theorem dV.aEc:lV .any (opsOf Tryz.f127 3)=dV.T3:=by kernel_rfl
theorem dV.PZ:iP dV.T3.2 dV.B3=true:=by kernel_rfl
theorem dV.step (k:Nat) (ih_spec_l92If:∀ m,m < k→dV.dJ m) (ih_spec_l92Loop:∀ m,m < k→fA.dJ m) (ih_spec_l92Stmt:∀ m,m < k→bD.dJ m) (ih_spec_l92Block:∀ m,m < k→bR.dJ m):dV.dJ k:=by
 intro g je jo a1 a2 a3 r1 r2 r3 r4 r5 r6 r7 r8 r9 w0 w hI hB h
 cases k with
 |zero=>exact absurd h (by simp [dV.f])
 |succ k=>
 simp only [dV.f] at h
 have hu58:=Tryz.underlying58
 have hu56:=Tryz.underlying56
 have HI0:=am hI
 have HK:=am (aC.refl w g none)
 have HL:=am hB.size
 clear hI
 have HW0:=am hB.size
 have HB:=am hB
 clear hB
 have H:=h
 clear h
 obtain ⟨⟨jB,jG⟩,A5,H⟩:=bsa H
 (try dsimp only at H)
 obtain ⟨⟨jh,ji,jg,ju⟩,A6,H⟩:=bsa H
 (try dsimp only at H)
 obtain ⟨⟨jC,jH⟩,A7,H⟩:=bsa H
 (try dsimp only at H)
 obtain ⟨⟨jp,jI⟩,A8,H⟩:=bsa H
 (try dsimp only at H)
 obtain ⟨⟨jD,jJ⟩,A9,H⟩:=bsa H
 (try dsimp only at H)
 obtain ⟨⟨jq,jP⟩,jK,H⟩:=bsm H
 (try dsimp only at H)
 have jQ:=am jK
 clear jK
 simp only [Option.some.injEq,Prod.mk.injEq] at H
 obtain ⟨rfl,rfl,rfl,rfl,rfl,rfl,rfl,rfl,rfl⟩:=H
 go_enter Tryz.func127,Tryz.ntmps127
 try go_wp2_with (first|((with_reducible refine cK (N:=8) rfl ?_);refine eO rfl (N:=8) rfl (cs:=#[.int .i64 0, .int .i64 0, .int .i64 0, .int .i64 0, .int .i64 0, .slice none 0 0, .slice none 0 0, .slice none 0 0]) (t:=58) rn_ ?_;intro j4 hg q0 hbox hb;replace HB:=am (aA iX hb);have j5:=am (hbox);have GW52:=am ((by rw [hg];exact (aM (w:=w) (g:=g) (row:=none) fF):w.heap.size≤j4));have GE52:=am ((Nat.le_trans HW0.out (by rw [hg];exact (aM (w:=w) (g:=g) (row:=none) fF):w.heap.size≤j4):w0.heap.size≤j4));replace HK:=am (aC.trans fF (aC.of_below hb g none) (.inl rfl));have NB0_52:=am ((by rw [hg];exact Nat.ne_of_lt (aI.lt (show aI w0 _ g je jo from fQ)):g≠j4));have jc:=am ((by rw [hg];exact Nat.ne_of_gt (aI.lt (show aI w0 _ g je jo from fQ)):j4≠g));replace HI0:=am (aI.below fQ hb);clear hb hbox hg)|((with_reducible refine aD (f:=37) rfl ?_);refine gl_ 13 Tryz.func37 #[.pointer (some ⟨g,0,none⟩), .int .i64 2] ?_;(with_reducible refine (aG.calls k g je jo 2 jB jG w0 _ ?side1 ?side2 A5.out).mono ?_);(case side1=>exact ND);(case side2=>exact TM);rintro e q1 ⟨rfl,hi,hb,hk⟩;refine ⟨_,rfl,?_⟩;replace j5:=am (aC.blk hk (g':=j4) (o:= .cells #[.int .i64 0, .int .i64 0, .int .i64 0, .int .i64 0, .int .i64 0, .slice none 0 0, .slice none 0 0, .slice none 0 0] 58 (0,0)) (aG_ j5.out) jc.out (by simp));replace HK:=am (aC.trans KE hk (.inl rfl));replace HB:=am (hb);replace HI0:=am (hi);(try clear hb);(try clear hk);(try clear hi))|((with_reducible refine aD (f:=130) rfl ?_);refine gl_ 15 Tryz.func130 #[.pointer (some ⟨g,0,none⟩), .int .i64 (wrap64 (1 + jB))] ?_;(with_reducible refine (bI.calls k g je jG (wrap64 (1 + jB)) jh ji jg ju w0 _ ?side1 ?side2 A6.out).mono ?_);(case side1=>exact ND);(case side2=>exact TM);rintro e q2 ⟨q3,rfl,ho0,hi,hb,hk⟩;refine ⟨_,rfl,?_⟩;have j8:=am (Kd.eU (Kd.aW (ok':=fun k_=>(w.heap.size≤k_)∧k_≠j4∧k_≠g) ho0 (fun k_ hk_=>⟨(Nat.le_trans (aM (w:=w) (g:=g) (row:=none) KE) hk_),(lJ j5.out k_ hk_),(aI.fresh ND k_ hk_)⟩)) (aM (w:=w) (g:=g) (row:=none) KE));replace j5:=am (aC.blk hk (g':=j4) (o:= .cells #[.int .i64 0, .int .i64 0, .int .i64 0, .int .i64 0, .int .i64 0, .slice none 0 0, .slice none 0 0, .slice none 0 0] 58 (0,0)) (aG_ j5.out) jc.out (by simp));replace HK:=am (aC.trans KE hk (.inl rfl));replace HB:=am (hb);replace HI0:=am (hi);(try clear hb);(try clear hk);(try clear hi);(try clear ho0))|((with_reducible refine cK (N:=9) rfl ?_);refine eO rfl (N:=9) rfl (cs:=#[.int .i64 0, .int .i64 0, .slice none 0 0]) (t:=56) rn_ ?_;intro j7 hg q4 hbox hb;replace j8:=am (Kd.kH (Kd.CK (aN_ j8.out) j7 (Nat.le_of_eq hg.symm)) hb);replace HB:=am (aA TM hb);have j9:=am (hbox);have GW55:=am ((by rw [hg];exact (aM (w:=w) (g:=g) (row:=none) KE):w.heap.size≤j7));have GE55:=am ((Nat.le_trans HW0.out (by rw [hg];exact (aM (w:=w) (g:=g) (row:=none) KE):w.heap.size≤j7):w0.heap.size≤j7));replace HK:=am (aC.trans KE (aC.of_below hb g none) (.inl rfl));have j6:=am ((by rw [hg];exact Nat.ne_of_lt (CS j5.out):j4≠j7));have j3:=am ((by rw [hg];exact Nat.ne_of_gt (CS j5.out):j7≠j4));replace j5:=bbP j5 hb;have NB0_55:=am ((by rw [hg];exact Nat.ne_of_lt (aI.lt (show aI w0 _ g je ju from ND)):g≠j7));have jd:=am ((by rw [hg];exact Nat.ne_of_gt (aI.lt (show aI w0 _ g je ju from ND)):j7≠g));replace HI0:=am (aI.below ND hb);clear hb hbox hg;have jL:=j3.out;have jM:=j6.out;have jN:=jd.out;have jO:=NB0_55.out;obtain ⟨jv,jw,jx,jy,jz,jA⟩:=lU j9.out;obtain ⟨ja,jb,jE⟩:=Kd.eF j8.out;subst jE)|((with_reducible refine aD (f:=37) rfl ?_);refine gl_ 21 Tryz.func37 #[.pointer (some ⟨g,0,none⟩), .int .i64 3] ?_;(with_reducible refine (aG.calls k g je ju 3 jC jH w0 _ ?side1 ?side2 A7.out).mono ?_);(case side1=>exact KC);(case side2=>exact PW);rintro e q5 ⟨rfl,hi,hb,hk⟩;refine ⟨_,rfl,?_⟩;replace j5:=am (aC.blk hk (g':=j4) (o:= .cells #[.int .i64 0, .int .i64 0, .int .i64 0, .int .i64 0, .int .i64 0, .slice none 0 0, .slice none 0 0, .slice none 0 0] 58 (0,0)) (mV (mV (mV j5.out j6.out _) j6.out _) j6.out _) jc.out (by simp));replace j8:=am (Kd.aW (Kd.pF (Kd.aW (ok:=fun k_=>((((w.heap.size≤k_))∧(k_≠j4∧k_≠g))∧k_≠j7)) (lN ((Kd.aW (Kd.dB (p:=⟨j7,2,none⟩) (Kd.dB (p:=⟨j7,1,none⟩) (Kd.dB (p:=⟨j7,0,none⟩) (Kd.aW j8.out (fun k_ hk=>(⟨hk,hk.2⟩:_∧k_≠j7))) (fun _ hk=>hk.2) (.int .i64 jh)) (fun _ hk=>hk.2) (.int .i64 ji)) (fun _ hk=>hk.2) (.slice ja jg.length jb)) (fun _ h_=>h_.1)))) (fun k_ hk_=>(⟨hk_,hk_.1.2.2⟩:_∧k_≠g))) hk (fun _ h=>h.2)) (fun _ h=>h.1));replace j9:=am (aC.blk hk (g':=j7) (o:= .cells #[.int .i64 jh, .int .i64 ji, .slice ja jg.length jb] 56 (0,0)) (aY (aY (aY j9.out 0 _ rfl) 1 _ rfl) 2 _ rfl) jd.out (by simp));replace HK:=am (aC.trans CO hk (.inl rfl));replace HB:=am (hb);replace HI0:=am (hi);(try clear hb);(try clear hk);(try clear hi))|((with_reducible refine aD (f:=82) rfl ?_);refine gl_ 23 Tryz.func82 #[.pointer (some ⟨g,0,none⟩), .int .i64 a1, .int .i64 (wrap64 (a2 - 1)), .int .i64 jC, .bool a3] ?_;(with_reducible refine (ih_spec_l92Block k (by omega) g je jH a1 (wrap64 (a2 - 1)) jC a3 jp jI w0 _ ?side1 ?side2 A8.out).mono ?_);(case side1=>exact KC);(case side2=>exact PW);rintro e jR ⟨jF,rfl,ho0,hi,hb,hk⟩;refine ⟨_,rfl,?_⟩;have jf:=am (Kd.eU (Kd.aW (ok':=fun k_=>(w.heap.size≤k_)∧some k_≠(.slice ja jg.length jb:Value).ownBlock∧k_≠j4∧k_≠j7∧k_≠g) ho0 (fun k_ hk_=>⟨(Nat.le_trans (aM (w:=w) (g:=g) (row:=none) CO) hk_),(Kd.fresh' (Kd.uG (aN_ j8.out)) k_ hk_),(lJ j5.out k_ hk_),(lJ j9.out k_ hk_),(aI.fresh KC k_ hk_)⟩)) (aM (w:=w) (g:=g) (row:=none) CO));replace j5:=am (aC.blk hk (g':=j4) (o:= .cells #[.int .i64 0, .int .i64 0, .int .i64 0, .int .i64 0, .int .i64 0, .slice none 0 0, .slice none 0 0, .slice none 0 0] 58 (0,0)) (aG_ j5.out) jc.out (by simp));replace j8:=am (Kd.aW (Kd.uH (Kd.wE (Kd.aW (ok:=fun k_=>((((w.heap.size≤k_))∧(k_≠j4∧k_≠g))∧k_≠j7)) (aN_ j8.out) (fun k_ hk_=>(⟨hk_,hk_.1.2.2⟩:_∧k_≠g))) hk) (by first|exact Kd.kC ho0|exact Kd.kC (Kd.R_N ho0))) (fun _ h_=>h_.1));replace j9:=am (aC.blk hk (g':=j7) (o:= .cells #[.int .i64 jh, .int .i64 ji, .slice ja jg.length jb] 56 (0,0)) (aG_ j9.out) jd.out (by simp));replace HK:=am (aC.trans CO hk (.inl rfl));replace HB:=am (hb);replace HI0:=am (hi);(try clear hb);(try clear hk);(try clear hi);(try clear ho0)))
 replace j8:=am (Kd.rF j8.out)
 replace jf:=am (Kd.rF jf.out)
 replace j5:=am (dA j5.out)
 replace j9:=am (dA j9.out)
 replace HI0:=am (aI.drew HI0.out)
 replace HK:=am (gT HK.out)
 replace HB:=am (bJ HB.out)
 refine kZ (n:=12) (S:=fun w'=>w'.cell? ⟨j7,0,none⟩=some (.int .i64 jh)∧w'.cell? ⟨j7,1,none⟩=some (.int .i64 ji)∧w'.cell? ⟨j7,2,none⟩=some (.slice ja jg.length jb)) (ds:=[]) (bz 12 0) (by kernel_rfl) rfl rfl (LY j9.out) (fun hHeld=>?_);refine iA dV.aEc dV.PZ (fun HT_ HW_=>?_)
 generalize jR.drew=q6 at j8 jf j5 j9 HI0 HK HB hHeld ⊢
 refine pr_ 1 25 (bz 12 2) HT_ ?_
 refine pr_ 2 26 (bz 12 6) HT_ ?_
 refine pr_ 3 27 (bz 12 14) HT_ ?_
 refine pr_ 4 28 (bz 12 30) HT_ ?_
 refine pr_ 5 29 (bz 12 62) HT_ ?_
 refine pr_ 6 30 (bz 12 126) HT_ ?_
 refine pr_ 8 32 (bz 12 382) HT_ ?_
 refine aFw 0 24 (bz 12 383) HT_ HW_ hHeld ?_
 refine gY (i:=7) (N:=some 31) (bz 12 511) rfl rfl (eG HT_.out (by kernel_rfl)) (by decide) (fun K hK=>?_)
 refine iF Tryz.func37 (by kernel_rfl) rfl #[.pointer (some ⟨g,0,none⟩), .int .i64 3] (by rfl) rfl rfl mD ?_
 with_reducible refine (aG.calls k g je jI 3 jD jJ w0 _ ?side1 ?side2 A9.out).mono ?_
 (case side1=>exact KC)
 (case side2=>exact PW)
 rintro e q7 ⟨rfl,hi,hb,hk⟩
 refine ⟨_,rfl,?_⟩
 replace j5:=am (aC.blk hk (g':=j4) (o:= .cells #[.int .i64 0, .int .i64 0, .int .i64 0, .int .i64 0, .int .i64 0, .slice none 0 0, .slice none 0 0, .slice none 0 0] 58 (0,0)) (aG_ j5.out) jc.out (by simp))
 replace j8:=am (Kd.aW (Kd.pF (Kd.aW (ok:=fun k_=>(((((w.heap.size≤k_))∧(k_≠j4∧k_≠g))∧k_≠j7)∧some k_≠(jF:Value).ownBlock)) (aN_ j8.out) (fun k_ hk_=>(⟨hk_,hk_.1.1.2.2⟩:_∧k_≠g))) hk (fun _ h=>h.2)) (fun _ h=>h.1))
 replace j9:=am (aC.blk hk (g':=j7) (o:= .cells #[.int .i64 jh, .int .i64 ji, .slice ja jg.length jb] 56 (0,0)) (aG_ j9.out) jd.out (by simp))
 replace jf:=am (Kd.aW (Kd.pF (Kd.aW (ok:=fun k_=>(((w.heap.size≤k_))∧(some k_≠(.slice ja jg.length jb:Value).ownBlock∧(k_≠j4∧(k_≠j7∧k_≠g))))) (aN_ jf.out) (fun k_ hk_=>(⟨hk_,hk_.2.2.2.2⟩:_∧k_≠g))) hk (fun _ h=>h.2)) (fun _ h=>h.1))
 replace HK:=am (aC.trans CO hk (.inl rfl))
 replace HB:=am (hb)
 replace HI0:=am (hi)
 (try clear hb)
 (try clear hb2)
 (try clear hk)
 (try clear hi)
 refine hK.out _ _ (LY j9.out) (fun hHeld=>?_)
 clear hK K
 refine eZ (a':=?_) ?_ ?_
 rotate_left
 ·exact ap_ (N:=31)
 refine gY (i:=9) (N:=some 33) (bz 12 1023) rfl rfl (eG HT_.out (by kernel_rfl)) (by decide) (fun K hK=>?_)
 refine iF Tryz.func82 (by kernel_rfl) rfl #[.pointer (some ⟨g,0,none⟩), .int .i64 a1, .int .i64 (wrap64 (a2 - 1)), .int .i64 jD, .bool a3] (by rfl) rfl rfl mD ?_
 with_reducible refine (ih_spec_l92Block k (by omega) g je jJ a1 (wrap64 (a2 - 1)) jD a3 jq jP w0 _ ?side1 ?side2 jQ.out).mono ?_
 (case side1=>exact KC)
 (case side2=>exact PW)
 rintro e jn ⟨q8,rfl,ho0,hi,hb,hk⟩
 refine ⟨_,rfl,?_⟩
 have jr:=am (Kd.eU (Kd.aW (ok':=fun k_=>(w.heap.size≤k_)∧some k_≠(.slice ja jg.length jb:Value).ownBlock∧some k_≠(jF:Value).ownBlock∧k_≠j4∧k_≠j7∧k_≠g) ho0 (fun k_ hk_=>⟨(Nat.le_trans (aM (w:=w) (g:=g) (row:=none) CO) hk_),(Kd.fresh' (Kd.uG (aN_ j8.out)) k_ hk_),(Kd.fresh' (Kd.uG (aN_ jf.out)) k_ hk_),(lJ j5.out k_ hk_),(lJ j9.out k_ hk_),(aI.fresh KC k_ hk_)⟩)) (aM (w:=w) (g:=g) (row:=none) CO))
 replace j5:=am (aC.blk hk (g':=j4) (o:= .cells #[.int .i64 0, .int .i64 0, .int .i64 0, .int .i64 0, .int .i64 0, .slice none 0 0, .slice none 0 0, .slice none 0 0] 58 (0,0)) (aG_ j5.out) jc.out (by simp))
 replace j8:=am (Kd.aW (Kd.uH (Kd.wE (Kd.aW (ok:=fun k_=>(((((w.heap.size≤k_))∧(k_≠j4∧k_≠g))∧k_≠j7)∧some k_≠(jF:Value).ownBlock)) (aN_ j8.out) (fun k_ hk_=>(⟨hk_,hk_.1.1.2.2⟩:_∧k_≠g))) hk) (by first|exact Kd.kC ho0|exact Kd.kC (Kd.R_N ho0))) (fun _ h_=>h_.1))
 replace j9:=am (aC.blk hk (g':=j7) (o:= .cells #[.int .i64 jh, .int .i64 ji, .slice ja jg.length jb] 56 (0,0)) (aG_ j9.out) jd.out (by simp))
 replace jf:=am (Kd.aW (Kd.uH (Kd.wE (Kd.aW (ok:=fun k_=>(((w.heap.size≤k_))∧(some k_≠(.slice ja jg.length jb:Value).ownBlock∧(k_≠j4∧(k_≠j7∧k_≠g))))) (aN_ jf.out) (fun k_ hk_=>(⟨hk_,hk_.2.2.2.2⟩:_∧k_≠g))) hk) (by first|exact Kd.kC ho0|exact Kd.kC (Kd.R_N ho0))) (fun _ h_=>h_.1))
 replace HK:=am (aC.trans CO hk (.inl rfl))
 replace HB:=am (hb)
 replace HI0:=am (hi)
 (try clear hb)
 (try clear hb2)
 (try clear hk)
 (try clear hi)
 (try clear ho0)
 obtain ⟨jj,jk,js⟩:=Kd.eF jr.out
 (first|subst js|(injection js with f1_ f2_ f3_;have f4_:=f1_.symm;have f5_:=f3_.symm;clear f1_ f2_ f3_;subst f4_;subst f5_))
 obtain ⟨jl,jm,jt⟩:=Kd.eF jf.out
 (first|subst jt|(injection jt with f1_ f2_ f3_;have f4_:=f1_.symm;have f5_:=f3_.symm;clear f1_ f2_ f3_;subst f4_;subst f5_))
 refine hK.out _ _ (LY j9.out) (fun hHeld=>?_)
 clear hK K
 refine eZ (a':=?_) ?_ ?_
 rotate_left
 ·exact ap_ (N:=33)
 refine pr_ 10 34 (bz 12 2047) HT_ ?_
 refine gY (i:=11) (N:=none) (bz 12 4095) rfl rfl (eG HT_.out (by kernel_rfl)) (by decide) (fun K hK=>?_)
 have jS:jn.cell? ⟨j4,0,none⟩=some (.int .i64 0):=(aN j5.out 0).trans rfl
 have hfs26:=bT j5.out 0
 have hns26_1:=j3.out
 have hms26_1:=j6.out
 have jT:jn.cell? ⟨j4,1,none⟩=some (.int .i64 0):=(aN j5.out 1).trans rfl
 have hfs27:=bT j5.out 1
 have hns27_1:=j3.out
 have hms27_1:=j6.out
 have jU:jn.cell? ⟨j4,2,none⟩=some (.int .i64 0):=(aN j5.out 2).trans rfl
 have hfs28:=bT j5.out 2
 have hns28_1:=j3.out
 have hms28_1:=j6.out
 have jV:jn.cell? ⟨j4,3,none⟩=some (.int .i64 0):=(aN j5.out 3).trans rfl
 have hfs29:=bT j5.out 3
 have hns29_1:=j3.out
 have hms29_1:=j6.out
 have jW:jn.cell? ⟨j4,4,none⟩=some (.int .i64 0):=(aN j5.out 4).trans rfl
 have hfs30:=bT j5.out 4
 have hns30_1:=j3.out
 have hms30_1:=j6.out
 have jX:jn.cell? ⟨j4,5,none⟩=some (.slice none 0 0):=(aN j5.out 5).trans rfl
 have hfs31:=bT j5.out 5
 have hns31_1:=j3.out
 have hms31_1:=j6.out
 have jY:jn.cell? ⟨j4,6,none⟩=some (.slice none 0 0):=(aN j5.out 6).trans rfl
 have hfs32:=bT j5.out 6
 have hns32_1:=j3.out
 have hms32_1:=j6.out
 have jZ:jn.cell? ⟨j4,7,none⟩=some (.slice none 0 0):=(aN j5.out 7).trans rfl
 have hfs33:=bT j5.out 7
 have hns33_1:=j3.out
 have hms33_1:=j6.out
 refine xZ (w1:=?_) (by rfl) rfl ?_ ?_
 rotate_left
 ·go_simp
  rfl
 refine hK.out _ _ ⟨((cell_far (p:=⟨j4,_,none⟩) j3.out _).trans (((cell_far (p:=⟨j4,_,none⟩) j3.out _).trans (((cell_far (p:=⟨j4,_,none⟩) j3.out _).trans (((cell_far (p:=⟨j4,_,none⟩) j3.out _).trans (((cell_far (p:=⟨j4,_,none⟩) j3.out _).trans (((cell_far (p:=⟨j4,_,none⟩) j3.out _).trans (((cell_far (p:=⟨j4,_,none⟩) j3.out _).trans (((cell_far (p:=⟨j4,_,none⟩) j3.out _).trans (hHeld.1)))))))))))))))),((cell_far (p:=⟨j4,_,none⟩) j3.out _).trans (((cell_far (p:=⟨j4,_,none⟩) j3.out _).trans (((cell_far (p:=⟨j4,_,none⟩) j3.out _).trans (((cell_far (p:=⟨j4,_,none⟩) j3.out _).trans (((cell_far (p:=⟨j4,_,none⟩) j3.out _).trans (((cell_far (p:=⟨j4,_,none⟩) j3.out _).trans (((cell_far (p:=⟨j4,_,none⟩) j3.out _).trans (((cell_far (p:=⟨j4,_,none⟩) j3.out _).trans (hHeld.2.1)))))))))))))))),((cell_far (p:=⟨j4,_,none⟩) j3.out _).trans (((cell_far (p:=⟨j4,_,none⟩) j3.out _).trans (((cell_far (p:=⟨j4,_,none⟩) j3.out _).trans (((cell_far (p:=⟨j4,_,none⟩) j3.out _).trans (((cell_far (p:=⟨j4,_,none⟩) j3.out _).trans (((cell_far (p:=⟨j4,_,none⟩) j3.out _).trans (((cell_far (p:=⟨j4,_,none⟩) j3.out _).trans (((cell_far (p:=⟨j4,_,none⟩) j3.out _).trans (hHeld.2.2))))))))))))))))⟩ (fun hHeld=>?_)
 clear hK K
 refine nA (kS HT_.out (by kernel_rfl)) ?_
 try go_wp2
 refine bodyPost_ret (results_cell_row rfl _ _ j4 58 #[.int .i64 2, .int .i64 0, .int .i64 0, .int .i64 jh, .int .i64 ji, .slice ja jg.length jb, .slice jl jp.length jm, .slice jj jq.length jk] (0,0) _ rfl (aY (aY (aY (aY (aY (aY (aY (aY j5.out 0 _ rfl) 1 _ rfl) 2 _ rfl) 3 _ rfl) 4 _ rfl) 5 _ rfl) 6 _ rfl) 7 _ rfl) Tryz.underlying58 rfl (by kernel_rfl)) rfl ?_
 exact ⟨_,_,_,gN,lN (Kd.aW (Kd.dB (p:=⟨j4,7,none⟩) (Kd.dB (p:=⟨j4,6,none⟩) (Kd.dB (p:=⟨j4,5,none⟩) (Kd.dB (p:=⟨j4,4,none⟩) (Kd.dB (p:=⟨j4,3,none⟩) (Kd.dB (p:=⟨j4,2,none⟩) (Kd.dB (p:=⟨j4,1,none⟩) (Kd.dB (p:=⟨j4,0,none⟩) (Kd.aW j8.out (fun k_ hk=>(⟨hk,hk.1.1.1.2.1⟩:_∧k_≠j4))) (fun _ hk=>hk.2) (.int .i64 2)) (fun _ hk=>hk.2) (.int .i64 0)) (fun _ hk=>hk.2) (.int .i64 0)) (fun _ hk=>hk.2) (.int .i64 jh)) (fun _ hk=>hk.2) (.int .i64 ji)) (fun _ hk=>hk.2) (.slice ja jg.length jb)) (fun _ hk=>hk.2) (.slice jl jp.length jm)) (fun _ hk=>hk.2) (.slice jj jq.length jk)) (fun _ hk=>⟨hk.1.1.1.1.1,⟨hk.1.1.2,hk.1.2⟩⟩)),lN (Kd.aW (Kd.dB (p:=⟨j4,7,none⟩) (Kd.dB (p:=⟨j4,6,none⟩) (Kd.dB (p:=⟨j4,5,none⟩) (Kd.dB (p:=⟨j4,4,none⟩) (Kd.dB (p:=⟨j4,3,none⟩) (Kd.dB (p:=⟨j4,2,none⟩) (Kd.dB (p:=⟨j4,1,none⟩) (Kd.dB (p:=⟨j4,0,none⟩) (Kd.aW jf.out (fun k_ hk=>(⟨hk,hk.1.2.2.1⟩:_∧k_≠j4))) (fun _ hk=>hk.2) (.int .i64 2)) (fun _ hk=>hk.2) (.int .i64 0)) (fun _ hk=>hk.2) (.int .i64 0)) (fun _ hk=>hk.2) (.int .i64 jh)) (fun _ hk=>hk.2) (.int .i64 ji)) (fun _ hk=>hk.2) (.slice ja jg.length jb)) (fun _ hk=>hk.2) (.slice jl jp.length jm)) (fun _ hk=>hk.2) (.slice jj jq.length jk)) (fun _ hk=>⟨hk.1.1.1,⟨hk.1.1.2.1,hk.1.2⟩⟩)),lN (Kd.aW (Kd.dB (p:=⟨j4,7,none⟩) (Kd.dB (p:=⟨j4,6,none⟩) (Kd.dB (p:=⟨j4,5,none⟩) (Kd.dB (p:=⟨j4,4,none⟩) (Kd.dB (p:=⟨j4,3,none⟩) (Kd.dB (p:=⟨j4,2,none⟩) (Kd.dB (p:=⟨j4,1,none⟩) (Kd.dB (p:=⟨j4,0,none⟩) (Kd.aW jr.out (fun k_ hk=>(⟨hk,hk.2.2.2.1⟩:_∧k_≠j4))) (fun _ hk=>hk.2) (.int .i64 2)) (fun _ hk=>hk.2) (.int .i64 0)) (fun _ hk=>hk.2) (.int .i64 0)) (fun _ hk=>hk.2) (.int .i64 jh)) (fun _ hk=>hk.2) (.int .i64 ji)) (fun _ hk=>hk.2) (.slice ja jg.length jb)) (fun _ hk=>hk.2) (.slice jl jp.length jm)) (fun _ hk=>hk.2) (.slice jj jq.length jk)) (fun _ hk=>⟨hk.1.1,⟨hk.1.2.1,hk.1.2.2.1⟩⟩)),KC,PW,CO⟩
theorem bD.step (k:Nat) (ih_spec_l92If:∀ m,m < k→dV.dJ m) (ih_spec_l92Loop:∀ m,m < k→fA.dJ m) (ih_spec_l92Stmt:∀ m,m < k→bD.dJ m) (ih_spec_l92Block:∀ m,m < k→bR.dJ m):bD.dJ k:=by
 intro g j4 zl a1 a2 a3 r1 r2 w0 w hI hB h
 cases k with
 |zero=>exact absurd h (by simp [bD.f])
 |succ k=>
 simp only [bD.f] at h
 have hu58:=Tryz.underlying58
 have HI0:=am hI
 have HK:=am (aC.refl w g none)
 have HL:=am hB.size
 clear hI
 have HW0:=am hB.size
 have HB:=am hB
 clear hB
 have H:=h
 clear h
 obtain ⟨⟨j3,j9⟩,A5,H⟩:=bsa H
 (try dsimp only at H)
 have zm:=am H
 clear H
 go_enter Tryz.func107,Tryz.ntmps107
 go_upto_if 11 with (first|((with_reducible refine aD (f:=37) rfl ?_);refine gl_ 10 Tryz.func37 #[.pointer (some ⟨g,0,none⟩), .int .i64 10] ?_;(with_reducible refine (aG.calls k g j4 zl 10 j3 j9 w0 _ ?side1 ?side2 A5.out).mono ?_);(case side1=>exact fQ);(case side2=>exact iX);rintro e w7 ⟨rfl,hi,hb,hk⟩;refine ⟨_,rfl,?_⟩;replace HK:=am (aC.trans fF hk (.inl rfl));replace HB:=am (hb);replace HI0:=am (hi);(try clear hb);(try clear hk);(try clear hi)))
 (try simp only [Act.put,List.setIfInBounds_toArray,List.set_cons_zero,List.set_cons_succ])
 go_cut [11] (fun zP wc=>∃ (kq:Nat) (jr:Bool),zP= .bool jr∧Aside0 (bD.j0 kq a1 a2 a3 j3 jr j4 j9=some (r1,r2))∧Aside0 (kq≤k)∧Aside0 (aI w0 wc g j4 j9)∧Aside0 (aC w wc g none)∧Aside0 (Below w0.heap.size w0 wc))
 case first=>
  have H:=zm.out
  clear zm
  by_cases c8:j3=0
  ·rw [if_pos c8] at H
   have jB:(j3 == 0)=true:=beq_iff_eq.mpr c8
   have zn:(j3 != 0)=false:=bne_eq_false_iff_eq.mpr c8
   clear c8
   (first|rw [jB]|(simp only [fI,fO];rw [jB])|skip)
   have H':=am H
   clear H
   go_wp2
   go_meet
   case rel=>exact ⟨_,((j3 == 0)),sd_,H',⟨by first|omega|exact Nat.le_refl _⟩,⟨fQ⟩,⟨fF⟩,⟨iX⟩⟩
  rw [if_neg c8] at H
  have jB:(j3 == 0)=false:=beq_eq_false_iff_ne.mpr c8
  have zn:(j3 != 0)=true:=bne_iff_ne.mpr c8
  (first|rw [jB]|(simp only [fI,fO];rw [jB])|skip)
  have H':=am H
  clear H
  go_wp2
  go_meet
  case rel=>exact ⟨_,((j3 == 1)),sd_,H',⟨by first|omega|exact Nat.le_refl _⟩,⟨fQ⟩,⟨fF⟩,⟨iX⟩⟩
 case rest=>
  clear zm
  obtain ⟨kq,jr,rfl,HA,HJ5,HI0,HK,HB⟩:=hcut
  cases kq with
  |zero=>exact absurd HA.out (by simp [bD.j0])
  |succ qg=>
   have H:=HA.out
   clear HA
   simp only [bD.j0] at H
   by_cases c9:jr=true
   ·subst c9
    rw [if_pos rfl] at H
    obtain ⟨⟨jR,jS,jT,jU,jV,jW,jX,jY,zK⟩,zL,H⟩:=bsm H
    (try dsimp only at H)
    have zQ:=am zL
    clear zL
    obtain ⟨zR,hy_⟩:∃ y_:List (S58),y_=(([(⟨jR,jS,jT,(⟨jU,jV,jW⟩:S56),jX,jY⟩:S58)]:List (S58))):=⟨_,rfl⟩
    replace H:(some (zR,zK))=some (r1,r2):=rx_
    have qj:=am hy_
    clear hy_
    simp only [Option.some.injEq,Prod.mk.injEq] at H
    obtain ⟨rfl,rfl⟩:=H
    go_wp2_with (first|((with_reducible refine aD (f:=126) rfl ?_);refine gl_ 15 Tryz.func126 #[.pointer (some ⟨g,0,none⟩)] ?_;(with_reducible refine (gL.calls qg g j4 j9 jR jS jT jU jV jW jX jY zK w0 _ ?side1 ?side2 zQ.out).mono ?_);(case side1=>exact fQ);(case side2=>exact iX);rintro e zS ⟨zM,zN,zO,rfl,ho0,ho1,ho2,hi,hb,hk⟩;refine ⟨_,rfl,?_⟩;have jG:=am (Kd.eU (Kd.aW (ok':=fun k_=>(w.heap.size≤k_)∧some k_≠(zN:Value).ownBlock∧some k_≠(zO:Value).ownBlock∧k_≠g) ho0 (fun k_ hk_=>⟨(Nat.le_trans (aM (w:=w) (g:=g) (row:=none) fF) hk_.1),hk_.2.1,hk_.2.2,(aI.fresh fQ k_ hk_.1)⟩)) (aM (w:=w) (g:=g) (row:=none) fF));have jH:=am (Kd.eU (Kd.aW (ok':=fun k_=>(w.heap.size≤k_)∧some k_≠(zM:Value).ownBlock∧some k_≠(zO:Value).ownBlock∧k_≠g) ho1 (fun k_ hk_=>⟨(Nat.le_trans (aM (w:=w) (g:=g) (row:=none) fF) hk_.1),hk_.2.1,hk_.2.2,(aI.fresh fQ k_ hk_.1)⟩)) (aM (w:=w) (g:=g) (row:=none) fF));have jI:=am (Kd.eU (Kd.aW (ok':=fun k_=>(w.heap.size≤k_)∧some k_≠(zM:Value).ownBlock∧some k_≠(zN:Value).ownBlock∧k_≠g) ho2 (fun k_ hk_=>⟨(Nat.le_trans (aM (w:=w) (g:=g) (row:=none) fF) hk_.1),hk_.2.1,hk_.2.2,(aI.fresh fQ k_ hk_.1)⟩)) (aM (w:=w) (g:=g) (row:=none) fF));replace HK:=am (aC.trans fF hk (.inl rfl));replace HB:=am (hb);replace HI0:=am (hi);(try clear hb);(try clear hk);(try clear hi);(try clear ho0);(try clear ho1);(try clear ho2);obtain ⟨qk,ql,zo⟩:=Kd.eF jG.out;subst zo;obtain ⟨qm,qn,zp⟩:=Kd.eF jH.out;subst zp;obtain ⟨qo,qp,zq⟩:=Kd.eF jI.out;subst zq)|((with_reducible refine cK (N:=16) rfl ?_);refine Kd.wO k58 _ 58 rfl (N':=16) rfl (xs:=([(⟨jR,jS,jT,(⟨jU,jV,jW⟩:S56),jX,jY⟩:S58)]:List (S58))) (inner:=[.int .i64 jR, .int .i64 jS, .int .i64 jT, .int .i64 jU, .int .i64 jV, .slice qk jW.length ql, .slice qm jX.length qn, .slice qo jY.length qp]) (ok:=(fun k_=>(w.heap.size≤k_)∧k_≠g)) (okp:=(fun k_=>(w.heap.size≤k_)∧k_≠g)) rn_ ?hp (fun _ hk=>hk) ((show ∀ k_,zS.heap.size≤k_→(fun k_=>(w.heap.size≤k_)∧k_≠g) k_ from fun k_ hk=>⟨(Nat.le_trans (aM (w:=w) (g:=g) (row:=none) fF) hk),aI.fresh fQ k_ hk⟩) _ (Nat.le_refl _)) (Below.refl _ _) (Nat.le_refl _) (by simp) ?_;(case hp=>exact (dF.c8 (show Kd.FK k58 _ _ (⟨jR,jS,jT,(⟨jU,jV,jW⟩:S56),jX,jY⟩:S58) [.int .i64 jR, .int .i64 jS, .int .i64 jT, .int .i64 jU, .int .i64 jV, .slice qk jW.length ql, .slice qm jX.length qn, .slice qo jY.length qp] from (nU _ _ (⟨jR,jS,jT,(⟨jU,jV,jW⟩:S56),jX,jY⟩:S58) (Kd.eP (Kd.aW (ok':=(fun k_=>(w.heap.size≤k_)∧k_≠g)) (jG.out) (fun k_ hk=>⟨hk.1,hk.2.2.2⟩))).2.1 (Kd.N_F (Kd.aW (ok':=(fun k_=>(w.heap.size≤k_)∧k_≠g)) (jG.out) (fun k_ hk=>⟨hk.1,hk.2.2.2⟩))) (Kd.eP (Kd.aW (ok':=(fun k_=>(w.heap.size≤k_)∧k_≠g)) (jH.out) (fun k_ hk=>⟨hk.1,hk.2.2.2⟩))).2.1 (Kd.N_F (Kd.aW (ok':=(fun k_=>(w.heap.size≤k_)∧k_≠g)) (jH.out) (fun k_ hk=>⟨hk.1,hk.2.2.2⟩))) (Kd.eP (Kd.aW (ok':=(fun k_=>(w.heap.size≤k_)∧k_≠g)) (jI.out) (fun k_ hk=>⟨hk.1,hk.2.2.2⟩))).2.1 (Kd.N_F (Kd.aW (ok':=(fun k_=>(w.heap.size≤k_)∧k_≠g)) (jI.out) (fun k_ hk=>⟨hk.1,hk.2.2.2⟩))))) (dF.none _ _)));intro Jj Jk ho16 hb hg_ hnew_;clear hg_ hnew_;(first|rw [← qj.out] at ho16|(simp only [Int.reduceToNat] at ho16;rw [← qj.out] at ho16));have zr:=am (Kd.eU ho16 (aM (w:=w) (g:=g) (row:=none) fF));replace HK:=am (aC.trans fF (aC.of_below hb g none) (.inl rfl));replace HB:=am (aA iX hb);replace HI0:=am (aI.below fQ hb);clear jG jH jI hb ho16))
    go_ret
    exact ⟨_,gN,lN (Kd.aW zr.out (fun _ hk=>hk.1)),fQ,iX,fF⟩
   replace c9:=Bool.eq_false_iff.mpr c9
   subst c9
   rw [if_neg (show ¬ (false=true) by decide)] at H
   by_cases jJ:j3=2
   ·rw [if_pos jJ] at H
    have jC:(j3 == 2)=true:=beq_iff_eq.mpr jJ
    have jD:(j3 != 2)=false:=bne_eq_false_iff_eq.mpr jJ
    clear jJ
    by_cases qh:a2 > 0
    ·rw [if_pos qh] at H
     have qq:decide (0 < a2)=true:=decide_eq_true qh
     clear qh
     obtain ⟨⟨jZ,q0,q1,q2,q3,q4,q5,ja,qr⟩,qs,H⟩:=bsm H
     (try dsimp only at H)
     have zT:=am qs
     clear qs
     obtain ⟨zs,hy_⟩:∃ y_:List (S58),y_=(([(⟨jZ,q0,q1,(⟨q2,q3,q4⟩:S56),q5,ja⟩:S58)]:List (S58))):=⟨_,rfl⟩
     replace H:(some (zs,qr))=some (r1,r2):=rx_
     have jL:=am hy_
     clear hy_
     simp only [Option.some.injEq,Prod.mk.injEq] at H
     obtain ⟨rfl,rfl⟩:=H
     go_wp2_with (first|((with_reducible refine aD (f:=127) rfl ?_);refine gl_ 25 Tryz.func127 #[.pointer (some ⟨g,0,none⟩), .int .i64 a1, .int .i64 a2, .bool a3] ?_;(with_reducible refine (ih_spec_l92If qg (by have:=HJ5.out;omega) g j4 j9 a1 a2 a3 jZ q0 q1 q2 q3 q4 q5 ja qr w0 _ ?side1 ?side2 zT.out).mono ?_);(case side1=>exact fQ);(case side2=>exact iX);rintro e zU ⟨qt,qu,qv,rfl,ho0,ho1,ho2,hi,hb,hk⟩;refine ⟨_,rfl,?_⟩;have js:=am (Kd.eU (Kd.aW (ok':=fun k_=>(w.heap.size≤k_)∧some k_≠(qu:Value).ownBlock∧some k_≠(qv:Value).ownBlock∧k_≠g) ho0 (fun k_ hk_=>⟨(Nat.le_trans (aM (w:=w) (g:=g) (row:=none) fF) hk_.1),hk_.2.1,hk_.2.2,(aI.fresh fQ k_ hk_.1)⟩)) (aM (w:=w) (g:=g) (row:=none) fF));have jt:=am (Kd.eU (Kd.aW (ok':=fun k_=>(w.heap.size≤k_)∧some k_≠(qt:Value).ownBlock∧some k_≠(qv:Value).ownBlock∧k_≠g) ho1 (fun k_ hk_=>⟨(Nat.le_trans (aM (w:=w) (g:=g) (row:=none) fF) hk_.1),hk_.2.1,hk_.2.2,(aI.fresh fQ k_ hk_.1)⟩)) (aM (w:=w) (g:=g) (row:=none) fF));have ju:=am (Kd.eU (Kd.aW (ok':=fun k_=>(w.heap.size≤k_)∧some k_≠(qt:Value).ownBlock∧some k_≠(qu:Value).ownBlock∧k_≠g) ho2 (fun k_ hk_=>⟨(Nat.le_trans (aM (w:=w) (g:=g) (row:=none) fF) hk_.1),hk_.2.1,hk_.2.2,(aI.fresh fQ k_ hk_.1)⟩)) (aM (w:=w) (g:=g) (row:=none) fF));replace HK:=am (aC.trans fF hk (.inl rfl));replace HB:=am (hb);replace HI0:=am (hi);(try clear hb);(try clear hk);(try clear hi);(try clear ho0);(try clear ho1);(try clear ho2);obtain ⟨qw,qx,zt⟩:=Kd.eF js.out;subst zt;obtain ⟨qy,qz,zu⟩:=Kd.eF jt.out;subst zu;obtain ⟨qA,qB,zv⟩:=Kd.eF ju.out;subst zv)|((with_reducible refine cK (N:=26) rfl ?_);refine Kd.wO k58 _ 58 rfl (N':=26) rfl (xs:=([(⟨jZ,q0,q1,(⟨q2,q3,q4⟩:S56),q5,ja⟩:S58)]:List (S58))) (inner:=[.int .i64 jZ, .int .i64 q0, .int .i64 q1, .int .i64 q2, .int .i64 q3, .slice qw q4.length qx, .slice qy q5.length qz, .slice qA ja.length qB]) (ok:=(fun k_=>(w.heap.size≤k_)∧k_≠g)) (okp:=(fun k_=>(w.heap.size≤k_)∧k_≠g)) rn_ ?hp (fun _ hk=>hk) ((show ∀ k_,zU.heap.size≤k_→(fun k_=>(w.heap.size≤k_)∧k_≠g) k_ from fun k_ hk=>⟨(Nat.le_trans (aM (w:=w) (g:=g) (row:=none) fF) hk),aI.fresh fQ k_ hk⟩) _ (Nat.le_refl _)) (Below.refl _ _) (Nat.le_refl _) (by simp) ?_;(case hp=>exact (dF.c8 (show Kd.FK k58 _ _ (⟨jZ,q0,q1,(⟨q2,q3,q4⟩:S56),q5,ja⟩:S58) [.int .i64 jZ, .int .i64 q0, .int .i64 q1, .int .i64 q2, .int .i64 q3, .slice qw q4.length qx, .slice qy q5.length qz, .slice qA ja.length qB] from (nU _ _ (⟨jZ,q0,q1,(⟨q2,q3,q4⟩:S56),q5,ja⟩:S58) (Kd.eP (Kd.aW (ok':=(fun k_=>(w.heap.size≤k_)∧k_≠g)) (js.out) (fun k_ hk=>⟨hk.1,hk.2.2.2⟩))).2.1 (Kd.N_F (Kd.aW (ok':=(fun k_=>(w.heap.size≤k_)∧k_≠g)) (js.out) (fun k_ hk=>⟨hk.1,hk.2.2.2⟩))) (Kd.eP (Kd.aW (ok':=(fun k_=>(w.heap.size≤k_)∧k_≠g)) (jt.out) (fun k_ hk=>⟨hk.1,hk.2.2.2⟩))).2.1 (Kd.N_F (Kd.aW (ok':=(fun k_=>(w.heap.size≤k_)∧k_≠g)) (jt.out) (fun k_ hk=>⟨hk.1,hk.2.2.2⟩))) (Kd.eP (Kd.aW (ok':=(fun k_=>(w.heap.size≤k_)∧k_≠g)) (ju.out) (fun k_ hk=>⟨hk.1,hk.2.2.2⟩))).2.1 (Kd.N_F (Kd.aW (ok':=(fun k_=>(w.heap.size≤k_)∧k_≠g)) (ju.out) (fun k_ hk=>⟨hk.1,hk.2.2.2⟩))))) (dF.none _ _)));intro zV Jl ho25 hb hg_ hnew_;clear hg_ hnew_;(first|rw [← jL.out] at ho25|(simp only [Int.reduceToNat] at ho25;rw [← jL.out] at ho25));have qC:=am (Kd.eU ho25 (aM (w:=w) (g:=g) (row:=none) fF));replace HK:=am (aC.trans fF (aC.of_below hb g none) (.inl rfl));replace HB:=am (aA iX hb);replace HI0:=am (aI.below fQ hb);clear js jt ju hb ho25))
     go_ret
     exact ⟨_,gN,lN (Kd.aW qC.out (fun _ hk=>hk.1)),fQ,iX,fF⟩
    rw [if_neg qh] at H
    have qq:decide (0 < a2)=false:=decide_eq_false qh
    clear qh
    obtain ⟨⟨zw,qD⟩,qE,H⟩:=bsm H
    (try dsimp only at H)
    have zW:=am qE
    clear qE
    obtain ⟨⟨q6,jb,jc,qF⟩,qG,H⟩:=bsm H
    (try dsimp only at H)
    have zX:=am qG
    clear qG
    obtain ⟨zx,hy_⟩:∃ y_:List (S58),y_=(([(⟨7,0,0,(⟨q6,jb,jc⟩:S56),([]:List (S58)),([]:List (S58))⟩:S58)]:List (S58))):=⟨_,rfl⟩
    replace H:(some (zx,qF))=some (r1,r2):=rx_
    have jM:=am hy_
    clear hy_
    simp only [Option.some.injEq,Prod.mk.injEq] at H
    obtain ⟨rfl,rfl⟩:=H
    go_wp2_with (first|((with_reducible refine aD (f:=37) rfl ?_);refine gl_ 52 Tryz.func37 #[.pointer (some ⟨g,0,none⟩), .int .i64 3] ?_;(with_reducible refine (aG.calls qg g j4 j9 3 zw qD w0 _ ?side1 ?side2 zW.out).mono ?_);(case side1=>exact fQ);(case side2=>exact iX);rintro e Jm ⟨rfl,hi,hb,hk⟩;refine ⟨_,rfl,?_⟩;replace HK:=am (aC.trans fF hk (.inl rfl));replace HB:=am (hb);replace HI0:=am (hi);(try clear hb);(try clear hk);(try clear hi))|((with_reducible refine aD (f:=130) rfl ?_);refine gl_ 54 Tryz.func130 #[.pointer (some ⟨g,0,none⟩), .int .i64 (wrap64 (1 + zw))] ?_;(with_reducible refine (bI.calls qg g j4 qD (wrap64 (1 + zw)) q6 jb jc qF w0 _ ?side1 ?side2 zX.out).mono ?_);(case side1=>exact fQ);(case side2=>exact iX);rintro e zY ⟨zZ,rfl,ho0,hi,hb,hk⟩;refine ⟨_,rfl,?_⟩;have jv:=am (Kd.eU (Kd.aW (ok':=fun k_=>(w.heap.size≤k_)∧k_≠g) ho0 (fun k_ hk_=>⟨(Nat.le_trans (aM (w:=w) (g:=g) (row:=none) fF) hk_),(aI.fresh fQ k_ hk_)⟩)) (aM (w:=w) (g:=g) (row:=none) fF));replace HK:=am (aC.trans fF hk (.inl rfl));replace HB:=am (hb);replace HI0:=am (hi);(try clear hb);(try clear hk);(try clear hi);(try clear ho0);obtain ⟨qH,qI,zy⟩:=Kd.eF jv.out;subst zy)|((with_reducible refine cK (N:=56) rfl ?_);refine Kd.wO k58 _ 58 rfl (N':=56) rfl (xs:=([(⟨7,0,0,(⟨q6,jb,jc⟩:S56),([]:List (S58)),([]:List (S58))⟩:S58)]:List (S58))) (inner:=[.int .i64 7, .int .i64 0, .int .i64 0, .int .i64 q6, .int .i64 jb, .slice qH jc.length qI, .slice none 0 0, .slice none 0 0]) (ok:=(fun k_=>(w.heap.size≤k_)∧k_≠g)) (okp:=(fun k_=>(w.heap.size≤k_)∧k_≠g)) rn_ ?hp (fun _ hk=>hk) ((show ∀ k_,zY.heap.size≤k_→(fun k_=>(w.heap.size≤k_)∧k_≠g) k_ from fun k_ hk=>⟨(Nat.le_trans (aM (w:=w) (g:=g) (row:=none) fF) hk),aI.fresh fQ k_ hk⟩) _ (Nat.le_refl _)) (Below.refl _ _) (Nat.le_refl _) (by simp) ?_;(case hp=>exact (dF.c8 (show Kd.FK k58 _ _ (⟨7,0,0,(⟨q6,jb,jc⟩:S56),([]:List (S58)),([]:List (S58))⟩:S58) [.int .i64 7, .int .i64 0, .int .i64 0, .int .i64 q6, .int .i64 jb, .slice qH jc.length qI, .slice none 0 0, .slice none 0 0] from (nU _ _ (⟨7,0,0,(⟨q6,jb,jc⟩:S56),([]:List (S58)),([]:List (S58))⟩:S58) (Kd.eP (Kd.aW (ok':=(fun k_=>(w.heap.size≤k_)∧k_≠g)) (jv.out) (fun k_ hk=>⟨hk.1,hk.2⟩))).2.1 (Kd.N_F (Kd.aW (ok':=(fun k_=>(w.heap.size≤k_)∧k_≠g)) (jv.out) (fun k_ hk=>⟨hk.1,hk.2⟩))) (Nat.le_refl _) (Kd.nN _ _ _) (Nat.le_refl _) (Kd.nN _ _ _))) (dF.none _ _)));intro J0 Jn ho32 hb hg_ hnew_;clear hg_ hnew_;(first|rw [← jM.out] at ho32|(simp only [Int.reduceToNat] at ho32;rw [← jM.out] at ho32));have qJ:=am (Kd.eU ho32 (aM (w:=w) (g:=g) (row:=none) fF));replace HK:=am (aC.trans fF (aC.of_below hb g none) (.inl rfl));replace HB:=am (aA iX hb);replace HI0:=am (aI.below fQ hb);clear jv hb ho32))
    go_ret
    exact ⟨_,gN,lN (Kd.aW qJ.out (fun _ hk=>hk.1)),fQ,iX,fF⟩
   rw [if_neg jJ] at H
   have jC:(j3 == 2)=false:=beq_eq_false_iff_ne.mpr jJ
   have jD:(j3 != 2)=true:=bne_iff_ne.mpr jJ
   by_cases jK:j3=3
   ·rw [if_pos jK] at H
    have jE:(j3 == 3)=true:=beq_iff_eq.mpr jK
    have jF:(j3 != 3)=false:=bne_eq_false_iff_eq.mpr jK
    clear jK
    have q7:=am H
    clear H
    go_upto_region 9 with (fail)
    go_cut [33] (fun J1 wc=>∃ (kq:Nat) (j5:Bool),J1= .bool j5∧Aside0 (bD.j1 kq a1 a2 j5 j4 j9=some (r1,r2))∧Aside0 (kq≤qg)∧Aside0 (aI w0 wc g j4 j9)∧Aside0 (aC w wc g none)∧Aside0 (Below w0.heap.size w0 wc))
    case first=>
     have H:=q7.out
     clear q7
     by_cases qi:a2 > 0
     ·rw [if_pos qi] at H
      have j7:decide (0 < a2)=true:=decide_eq_true qi
      clear qi
      (first|rw [j7]|(simp only [fI,fO];rw [j7])|skip)
      have H':=am H
      clear H
      go_wp2
      go_meet
      case rel=>exact ⟨_,(a3),sd_,H',⟨by have:=HJ5.out;first|omega|exact Nat.le_refl _⟩,⟨fQ⟩,⟨fF⟩,⟨iX⟩⟩
     rw [if_neg qi] at H
     have j7:decide (0 < a2)=false:=decide_eq_false qi
     clear qi
     (first|rw [j7]|(simp only [fI,fO];rw [j7])|skip)
     have H':=am H
     clear H
     go_wp2
     go_meet
     case rel=>exact ⟨_,(false),sd_,H',⟨by have:=HJ5.out;first|omega|exact Nat.le_refl _⟩,⟨fQ⟩,⟨fF⟩,⟨iX⟩⟩
    case rest=>
     clear q7
     try clear c9
     try clear jJ
     try clear jC
     try clear jD
     try clear jK
     try clear jE
     try clear jF
     obtain ⟨kq,j5,rfl,HA,HJ33,HI0,HK,HB⟩:=hcut
     cases kq with
     |zero=>exact absurd HA.out (by simp [bD.j1])
     |succ q8=>
      have H:=HA.out
      clear HA
      simp only [bD.j1] at H
      by_cases zj:j5=true
      ·subst zj
       rw [if_pos rfl] at H
       obtain ⟨⟨zz,zA⟩,qK,H⟩:=bsm H
       (try dsimp only at H)
       have J2:=am qK
       clear qK
       simp only [Option.some.injEq,Prod.mk.injEq] at H
       obtain ⟨rfl,rfl⟩:=H
       go_wp2_with (first|((with_reducible refine aD (f:=128) rfl ?_);refine gl_ 37 Tryz.func128 #[.pointer (some ⟨g,0,none⟩), .int .i64 a1, .int .i64 a2] ?_;(with_reducible refine (ih_spec_l92Loop q8 (by have:=HJ5.out;have:=HJ33.out;omega) g j4 j9 a1 a2 zz zA w0 _ ?side1 ?side2 J2.out).mono ?_);(case side1=>exact fQ);(case side2=>exact iX);rintro e Jo ⟨J3,rfl,ho0,hi,hb,hk⟩;refine ⟨_,rfl,?_⟩;have qL:=am (Kd.eU (Kd.aW (ok':=fun k_=>(w.heap.size≤k_)∧k_≠g) ho0 (fun k_ hk_=>⟨(Nat.le_trans (aM (w:=w) (g:=g) (row:=none) fF) hk_),(aI.fresh fQ k_ hk_)⟩)) (aM (w:=w) (g:=g) (row:=none) fF));replace HK:=am (aC.trans fF hk (.inl rfl));replace HB:=am (hb);replace HI0:=am (hi);(try clear hb);(try clear hk);(try clear hi);(try clear ho0)))
       go_ret
       exact ⟨_,gN,lN (Kd.aW qL.out (fun _ hk=>hk.1)),fQ,iX,fF⟩
      replace zj:=Bool.eq_false_iff.mpr zj
      subst zj
      rw [if_neg (show ¬ (false=true) by decide)] at H
      obtain ⟨⟨q9,qM⟩,qN,H⟩:=bsm H
      (try dsimp only at H)
      have J4:=am qN
      clear qN
      obtain ⟨⟨jd,je,jf,qO⟩,qP,H⟩:=bsm H
      (try dsimp only at H)
      have J5:=am qP
      clear qP
      obtain ⟨zB,hy_⟩:∃ y_:List (S58),y_=(([(⟨7,0,0,(⟨jd,je,jf⟩:S56),([]:List (S58)),([]:List (S58))⟩:S58)]:List (S58))):=⟨_,rfl⟩
      replace H:(some (zB,qO))=some (r1,r2):=rx_
      have jN:=am hy_
      clear hy_
      simp only [Option.some.injEq,Prod.mk.injEq] at H
      obtain ⟨rfl,rfl⟩:=H
      go_wp2_with (first|((with_reducible refine aD (f:=37) rfl ?_);refine gl_ 52 Tryz.func37 #[.pointer (some ⟨g,0,none⟩), .int .i64 3] ?_;(with_reducible refine (aG.calls q8 g j4 j9 3 q9 qM w0 _ ?side1 ?side2 J4.out).mono ?_);(case side1=>exact fQ);(case side2=>exact iX);rintro e Jp ⟨rfl,hi,hb,hk⟩;refine ⟨_,rfl,?_⟩;replace HK:=am (aC.trans fF hk (.inl rfl));replace HB:=am (hb);replace HI0:=am (hi);(try clear hb);(try clear hk);(try clear hi))|((with_reducible refine aD (f:=130) rfl ?_);refine gl_ 54 Tryz.func130 #[.pointer (some ⟨g,0,none⟩), .int .i64 (wrap64 (1 + q9))] ?_;(with_reducible refine (bI.calls q8 g j4 qM (wrap64 (1 + q9)) jd je jf qO w0 _ ?side1 ?side2 J5.out).mono ?_);(case side1=>exact fQ);(case side2=>exact iX);rintro e J6 ⟨J7,rfl,ho0,hi,hb,hk⟩;refine ⟨_,rfl,?_⟩;have jw:=am (Kd.eU (Kd.aW (ok':=fun k_=>(w.heap.size≤k_)∧k_≠g) ho0 (fun k_ hk_=>⟨(Nat.le_trans (aM (w:=w) (g:=g) (row:=none) fF) hk_),(aI.fresh fQ k_ hk_)⟩)) (aM (w:=w) (g:=g) (row:=none) fF));replace HK:=am (aC.trans fF hk (.inl rfl));replace HB:=am (hb);replace HI0:=am (hi);(try clear hb);(try clear hk);(try clear hi);(try clear ho0);obtain ⟨qQ,qR,zC⟩:=Kd.eF jw.out;subst zC)|((with_reducible refine cK (N:=56) rfl ?_);refine Kd.wO k58 _ 58 rfl (N':=56) rfl (xs:=([(⟨7,0,0,(⟨jd,je,jf⟩:S56),([]:List (S58)),([]:List (S58))⟩:S58)]:List (S58))) (inner:=[.int .i64 7, .int .i64 0, .int .i64 0, .int .i64 jd, .int .i64 je, .slice qQ jf.length qR, .slice none 0 0, .slice none 0 0]) (ok:=(fun k_=>(w.heap.size≤k_)∧k_≠g)) (okp:=(fun k_=>(w.heap.size≤k_)∧k_≠g)) rn_ ?hp (fun _ hk=>hk) ((show ∀ k_,J6.heap.size≤k_→(fun k_=>(w.heap.size≤k_)∧k_≠g) k_ from fun k_ hk=>⟨(Nat.le_trans (aM (w:=w) (g:=g) (row:=none) fF) hk),aI.fresh fQ k_ hk⟩) _ (Nat.le_refl _)) (Below.refl _ _) (Nat.le_refl _) (by simp) ?_;(case hp=>exact (dF.c8 (show Kd.FK k58 _ _ (⟨7,0,0,(⟨jd,je,jf⟩:S56),([]:List (S58)),([]:List (S58))⟩:S58) [.int .i64 7, .int .i64 0, .int .i64 0, .int .i64 jd, .int .i64 je, .slice qQ jf.length qR, .slice none 0 0, .slice none 0 0] from (nU _ _ (⟨7,0,0,(⟨jd,je,jf⟩:S56),([]:List (S58)),([]:List (S58))⟩:S58) (Kd.eP (Kd.aW (ok':=(fun k_=>(w.heap.size≤k_)∧k_≠g)) (jw.out) (fun k_ hk=>⟨hk.1,hk.2⟩))).2.1 (Kd.N_F (Kd.aW (ok':=(fun k_=>(w.heap.size≤k_)∧k_≠g)) (jw.out) (fun k_ hk=>⟨hk.1,hk.2⟩))) (Nat.le_refl _) (Kd.nN _ _ _) (Nat.le_refl _) (Kd.nN _ _ _))) (dF.none _ _)));intro J8 Jq ho45 hb hg_ hnew_;clear hg_ hnew_;(first|rw [← jN.out] at ho45|(simp only [Int.reduceToNat] at ho45;rw [← jN.out] at ho45));have qS:=am (Kd.eU ho45 (aM (w:=w) (g:=g) (row:=none) fF));replace HK:=am (aC.trans fF (aC.of_below hb g none) (.inl rfl));replace HB:=am (aA iX hb);replace HI0:=am (aI.below fQ hb);clear jw hb ho45))
      go_ret
      exact ⟨_,gN,lN (Kd.aW qS.out (fun _ hk=>hk.1)),fQ,iX,fF⟩
   rw [if_neg jK] at H
   have jE:(j3 == 3)=false:=beq_eq_false_iff_ne.mpr jK
   have jF:(j3 != 3)=true:=bne_iff_ne.mpr jK
   have qa:=am H
   clear H
   go_upto_if 38 with (fail)
   go_cut [38] (fun J9 wc=>∃ (kq:Nat) (j6:Bool),J9= .bool j6∧Aside0 (bD.j2 kq a1 j3 j6 j4 j9=some (r1,r2))∧Aside0 (kq≤qg)∧Aside0 (aI w0 wc g j4 j9)∧Aside0 (aC w wc g none)∧Aside0 (Below w0.heap.size w0 wc))
   case first=>
    have H:=qa.out
    clear qa
    by_cases qb:j3=4
    ·rw [if_pos qb] at H
     have j8:(j3 == 4)=true:=beq_iff_eq.mpr qb
     have qU:(j3 != 4)=false:=bne_eq_false_iff_eq.mpr qb
     clear qb
     (first|rw [j8]|(simp only [fI,fO];rw [j8])|skip)
     have H':=am H
     clear H
     go_wp2
     go_meet
     case rel=>exact ⟨_,((j3 == 4)),sd_,H',⟨by have:=HJ5.out;first|omega|exact Nat.le_refl _⟩,⟨fQ⟩,⟨fF⟩,⟨iX⟩⟩
    rw [if_neg qb] at H
    have j8:(j3 == 4)=false:=beq_eq_false_iff_ne.mpr qb
    have qU:(j3 != 4)=true:=bne_iff_ne.mpr qb
    (first|rw [j8]|(simp only [fI,fO];rw [j8])|skip)
    by_cases qc:j3=5
    ·rw [if_pos qc] at H
     have qV:(j3 == 5)=true:=beq_iff_eq.mpr qc
     have qW:(j3 != 5)=false:=bne_eq_false_iff_eq.mpr qc
     clear qc
     have H':=am H
     clear H
     go_wp2
     go_meet
     case rel=>exact ⟨_,((j3 == 5)),sd_,H',⟨by have:=HJ5.out;first|omega|exact Nat.le_refl _⟩,⟨fQ⟩,⟨fF⟩,⟨iX⟩⟩
    rw [if_neg qc] at H
    have qV:(j3 == 5)=false:=beq_eq_false_iff_ne.mpr qc
    have qW:(j3 != 5)=true:=bne_iff_ne.mpr qc
    have H':=am H
    clear H
    go_wp2
    go_meet
    case rel=>exact ⟨_,((j3 == 6)),sd_,H',⟨by have:=HJ5.out;first|omega|exact Nat.le_refl _⟩,⟨fQ⟩,⟨fF⟩,⟨iX⟩⟩
   case rest=>
    clear qa
    try clear c9
    try clear jJ
    try clear jC
    try clear jD
    try clear jK
    try clear jE
    try clear jF
    obtain ⟨kq,j6,rfl,HA,HJ45,HI0,HK,HB⟩:=hcut
    cases kq with
    |zero=>exact absurd HA.out (by simp [bD.j2])
    |succ qd=>
     have H:=HA.out
     clear HA
     simp only [bD.j2] at H
     by_cases zk:j6=true
     ·subst zk
      rw [if_pos rfl] at H
      obtain ⟨⟨jg,jh,ji,jj,jk,jl,jm,jn,qX⟩,qY,H⟩:=bsm H
      (try dsimp only at H)
      have Ja:=am qY
      clear qY
      obtain ⟨zD,hy_⟩:∃ y_:List (S58),y_=(([(⟨jg,jh,ji,(⟨jj,jk,jl⟩:S56),jm,jn⟩:S58)]:List (S58))):=⟨_,rfl⟩
      replace H:(some (zD,qX))=some (r1,r2):=rx_
      have jO:=am hy_
      clear hy_
      simp only [Option.some.injEq,Prod.mk.injEq] at H
      obtain ⟨rfl,rfl⟩:=H
      go_wp2_with (first|((with_reducible refine aD (f:=129) rfl ?_);refine gl_ 44 Tryz.func129 #[.pointer (some ⟨g,0,none⟩), .int .i64 a1] ?_;(with_reducible refine (gM.calls qd g j4 j9 a1 jg jh ji jj jk jl jm jn qX w0 _ ?side1 ?side2 Ja.out).mono ?_);(case side1=>exact fQ);(case side2=>exact iX);rintro e Jb ⟨qZ,z0,z1,rfl,ho0,ho1,ho2,hi,hb,hk⟩;refine ⟨_,rfl,?_⟩;have jx:=am (Kd.eU (Kd.aW (ok':=fun k_=>(w.heap.size≤k_)∧some k_≠(z0:Value).ownBlock∧some k_≠(z1:Value).ownBlock∧k_≠g) ho0 (fun k_ hk_=>⟨(Nat.le_trans (aM (w:=w) (g:=g) (row:=none) fF) hk_.1),hk_.2.1,hk_.2.2,(aI.fresh fQ k_ hk_.1)⟩)) (aM (w:=w) (g:=g) (row:=none) fF));have jy:=am (Kd.eU (Kd.aW (ok':=fun k_=>(w.heap.size≤k_)∧some k_≠(qZ:Value).ownBlock∧some k_≠(z1:Value).ownBlock∧k_≠g) ho1 (fun k_ hk_=>⟨(Nat.le_trans (aM (w:=w) (g:=g) (row:=none) fF) hk_.1),hk_.2.1,hk_.2.2,(aI.fresh fQ k_ hk_.1)⟩)) (aM (w:=w) (g:=g) (row:=none) fF));have jz:=am (Kd.eU (Kd.aW (ok':=fun k_=>(w.heap.size≤k_)∧some k_≠(qZ:Value).ownBlock∧some k_≠(z0:Value).ownBlock∧k_≠g) ho2 (fun k_ hk_=>⟨(Nat.le_trans (aM (w:=w) (g:=g) (row:=none) fF) hk_.1),hk_.2.1,hk_.2.2,(aI.fresh fQ k_ hk_.1)⟩)) (aM (w:=w) (g:=g) (row:=none) fF));replace HK:=am (aC.trans fF hk (.inl rfl));replace HB:=am (hb);replace HI0:=am (hi);(try clear hb);(try clear hk);(try clear hi);(try clear ho0);(try clear ho1);(try clear ho2);obtain ⟨z2,z3,zE⟩:=Kd.eF jx.out;subst zE;obtain ⟨z4,z5,zF⟩:=Kd.eF jy.out;subst zF;obtain ⟨z6,z7,zG⟩:=Kd.eF jz.out;subst zG)|((with_reducible refine cK (N:=45) rfl ?_);refine Kd.wO k58 _ 58 rfl (N':=45) rfl (xs:=([(⟨jg,jh,ji,(⟨jj,jk,jl⟩:S56),jm,jn⟩:S58)]:List (S58))) (inner:=[.int .i64 jg, .int .i64 jh, .int .i64 ji, .int .i64 jj, .int .i64 jk, .slice z2 jl.length z3, .slice z4 jm.length z5, .slice z6 jn.length z7]) (ok:=(fun k_=>(w.heap.size≤k_)∧k_≠g)) (okp:=(fun k_=>(w.heap.size≤k_)∧k_≠g)) rn_ ?hp (fun _ hk=>hk) ((show ∀ k_,Jb.heap.size≤k_→(fun k_=>(w.heap.size≤k_)∧k_≠g) k_ from fun k_ hk=>⟨(Nat.le_trans (aM (w:=w) (g:=g) (row:=none) fF) hk),aI.fresh fQ k_ hk⟩) _ (Nat.le_refl _)) (Below.refl _ _) (Nat.le_refl _) (by simp) ?_;(case hp=>exact (dF.c8 (show Kd.FK k58 _ _ (⟨jg,jh,ji,(⟨jj,jk,jl⟩:S56),jm,jn⟩:S58) [.int .i64 jg, .int .i64 jh, .int .i64 ji, .int .i64 jj, .int .i64 jk, .slice z2 jl.length z3, .slice z4 jm.length z5, .slice z6 jn.length z7] from (nU _ _ (⟨jg,jh,ji,(⟨jj,jk,jl⟩:S56),jm,jn⟩:S58) (Kd.eP (Kd.aW (ok':=(fun k_=>(w.heap.size≤k_)∧k_≠g)) (jx.out) (fun k_ hk=>⟨hk.1,hk.2.2.2⟩))).2.1 (Kd.N_F (Kd.aW (ok':=(fun k_=>(w.heap.size≤k_)∧k_≠g)) (jx.out) (fun k_ hk=>⟨hk.1,hk.2.2.2⟩))) (Kd.eP (Kd.aW (ok':=(fun k_=>(w.heap.size≤k_)∧k_≠g)) (jy.out) (fun k_ hk=>⟨hk.1,hk.2.2.2⟩))).2.1 (Kd.N_F (Kd.aW (ok':=(fun k_=>(w.heap.size≤k_)∧k_≠g)) (jy.out) (fun k_ hk=>⟨hk.1,hk.2.2.2⟩))) (Kd.eP (Kd.aW (ok':=(fun k_=>(w.heap.size≤k_)∧k_≠g)) (jz.out) (fun k_ hk=>⟨hk.1,hk.2.2.2⟩))).2.1 (Kd.N_F (Kd.aW (ok':=(fun k_=>(w.heap.size≤k_)∧k_≠g)) (jz.out) (fun k_ hk=>⟨hk.1,hk.2.2.2⟩))))) (dF.none _ _)));intro Jc Jr ho56 hb hg_ hnew_;clear hg_ hnew_;(first|rw [← jO.out] at ho56|(simp only [Int.reduceToNat] at ho56;rw [← jO.out] at ho56));have z8:=am (Kd.eU ho56 (aM (w:=w) (g:=g) (row:=none) fF));replace HK:=am (aC.trans fF (aC.of_below hb g none) (.inl rfl));replace HB:=am (aA iX hb);replace HI0:=am (aI.below fQ hb);clear jx jy jz hb ho56))
      go_ret
      exact ⟨_,gN,lN (Kd.aW z8.out (fun _ hk=>hk.1)),fQ,iX,fF⟩
     replace zk:=Bool.eq_false_iff.mpr zk
     subst zk
     rw [if_neg (show ¬ (false=true) by decide)] at H
     by_cases qe:j3=7
     ·rw [if_pos qe] at H
      have z9:(j3 == 7)=true:=beq_iff_eq.mpr qe
      have za:(j3 != 7)=false:=bne_eq_false_iff_eq.mpr qe
      clear qe
      obtain ⟨zH,hy_⟩:∃ y_:List (S58),y_=(([(⟨6,0,0,(⟨0,0,([]:List (S56))⟩:S56),([]:List (S58)),([]:List (S58))⟩:S58)]:List (S58))):=⟨_,rfl⟩
      replace H:(some (zH,j9))=some (r1,r2):=rx_
      have jP:=am hy_
      clear hy_
      simp only [Option.some.injEq,Prod.mk.injEq] at H
      obtain ⟨rfl,rfl⟩:=H
      go_wp2_with (first|((with_reducible refine cK (N:=49) rfl ?_);refine Kd.wO k58 _ 58 rfl (N':=49) rfl (xs:=([(⟨6,0,0,(⟨0,0,([]:List (S56))⟩:S56),([]:List (S58)),([]:List (S58))⟩:S58)]:List (S58))) (inner:=[.int .i64 6, .int .i64 0, .int .i64 0, .int .i64 0, .int .i64 0, .slice none 0 0, .slice none 0 0, .slice none 0 0]) (ok:=(fun k_=>(w.heap.size≤k_)∧k_≠g)) (okp:=(fun k_=>(w.heap.size≤k_)∧k_≠g)) rn_ ?hp (fun _ hk=>hk) ((show ∀ k_,wc.heap.size≤k_→(fun k_=>(w.heap.size≤k_)∧k_≠g) k_ from fun k_ hk=>⟨(Nat.le_trans (aM (w:=w) (g:=g) (row:=none) fF) hk),aI.fresh fQ k_ hk⟩) _ (Nat.le_refl _)) (Below.refl _ _) (Nat.le_refl _) (by simp) ?_;(case hp=>exact (dF.c8 (show Kd.FK k58 _ _ (⟨6,0,0,(⟨0,0,([]:List (S56))⟩:S56),([]:List (S58)),([]:List (S58))⟩:S58) [.int .i64 6, .int .i64 0, .int .i64 0, .int .i64 0, .int .i64 0, .slice none 0 0, .slice none 0 0, .slice none 0 0] from (nU _ _ (⟨6,0,0,(⟨0,0,([]:List (S56))⟩:S56),([]:List (S58)),([]:List (S58))⟩:S58) (Nat.le_refl _) (Kd.nN _ _ _) (Nat.le_refl _) (Kd.nN _ _ _) (Nat.le_refl _) (Kd.nN _ _ _))) (dF.none _ _)));intro Jd Js ho59 hb hg_ hnew_;clear hg_ hnew_;(first|rw [← jP.out] at ho59|(simp only [Int.reduceToNat] at ho59;rw [← jP.out] at ho59));have zb:=am (Kd.eU ho59 (aM (w:=w) (g:=g) (row:=none) fF));replace HK:=am (aC.trans fF (aC.of_below hb g none) (.inl rfl));replace HB:=am (aA iX hb);replace HI0:=am (aI.below fQ hb);clear hb ho59))
      go_ret
      exact ⟨_,gN,lN (Kd.aW zb.out (fun _ hk=>hk.1)),fQ,iX,fF⟩
     rw [if_neg qe] at H
     have z9:(j3 == 7)=false:=beq_eq_false_iff_ne.mpr qe
     have za:(j3 != 7)=true:=bne_iff_ne.mpr qe
     obtain ⟨⟨qf,zc⟩,zd,H⟩:=bsm H
     (try dsimp only at H)
     have Je:=am zd
     clear zd
     obtain ⟨⟨jo,jp,jq,ze⟩,zf,H⟩:=bsm H
     (try dsimp only at H)
     have Jf:=am zf
     clear zf
     obtain ⟨zI,hy_⟩:∃ y_:List (S58),y_=(([(⟨7,0,0,(⟨jo,jp,jq⟩:S56),([]:List (S58)),([]:List (S58))⟩:S58)]:List (S58))):=⟨_,rfl⟩
     replace H:(some (zI,ze))=some (r1,r2):=rx_
     have jQ:=am hy_
     clear hy_
     simp only [Option.some.injEq,Prod.mk.injEq] at H
     obtain ⟨rfl,rfl⟩:=H
     go_wp2_with (first|((with_reducible refine aD (f:=37) rfl ?_);refine gl_ 52 Tryz.func37 #[.pointer (some ⟨g,0,none⟩), .int .i64 3] ?_;(with_reducible refine (aG.calls qd g j4 j9 3 qf zc w0 _ ?side1 ?side2 Je.out).mono ?_);(case side1=>exact fQ);(case side2=>exact iX);rintro e Jt ⟨rfl,hi,hb,hk⟩;refine ⟨_,rfl,?_⟩;replace HK:=am (aC.trans fF hk (.inl rfl));replace HB:=am (hb);replace HI0:=am (hi);(try clear hb);(try clear hk);(try clear hi))|((with_reducible refine aD (f:=130) rfl ?_);refine gl_ 54 Tryz.func130 #[.pointer (some ⟨g,0,none⟩), .int .i64 (wrap64 (1 + qf))] ?_;(with_reducible refine (bI.calls qd g j4 zc (wrap64 (1 + qf)) jo jp jq ze w0 _ ?side1 ?side2 Jf.out).mono ?_);(case side1=>exact fQ);(case side2=>exact iX);rintro e Jg ⟨Jh,rfl,ho0,hi,hb,hk⟩;refine ⟨_,rfl,?_⟩;have jA:=am (Kd.eU (Kd.aW (ok':=fun k_=>(w.heap.size≤k_)∧k_≠g) ho0 (fun k_ hk_=>⟨(Nat.le_trans (aM (w:=w) (g:=g) (row:=none) fF) hk_),(aI.fresh fQ k_ hk_)⟩)) (aM (w:=w) (g:=g) (row:=none) fF));replace HK:=am (aC.trans fF hk (.inl rfl));replace HB:=am (hb);replace HI0:=am (hi);(try clear hb);(try clear hk);(try clear hi);(try clear ho0);obtain ⟨zg,zh,zJ⟩:=Kd.eF jA.out;subst zJ)|((with_reducible refine cK (N:=56) rfl ?_);refine Kd.wO k58 _ 58 rfl (N':=56) rfl (xs:=([(⟨7,0,0,(⟨jo,jp,jq⟩:S56),([]:List (S58)),([]:List (S58))⟩:S58)]:List (S58))) (inner:=[.int .i64 7, .int .i64 0, .int .i64 0, .int .i64 jo, .int .i64 jp, .slice zg jq.length zh, .slice none 0 0, .slice none 0 0]) (ok:=(fun k_=>(w.heap.size≤k_)∧k_≠g)) (okp:=(fun k_=>(w.heap.size≤k_)∧k_≠g)) rn_ ?hp (fun _ hk=>hk) ((show ∀ k_,Jg.heap.size≤k_→(fun k_=>(w.heap.size≤k_)∧k_≠g) k_ from fun k_ hk=>⟨(Nat.le_trans (aM (w:=w) (g:=g) (row:=none) fF) hk),aI.fresh fQ k_ hk⟩) _ (Nat.le_refl _)) (Below.refl _ _) (Nat.le_refl _) (by simp) ?_;(case hp=>exact (dF.c8 (show Kd.FK k58 _ _ (⟨7,0,0,(⟨jo,jp,jq⟩:S56),([]:List (S58)),([]:List (S58))⟩:S58) [.int .i64 7, .int .i64 0, .int .i64 0, .int .i64 jo, .int .i64 jp, .slice zg jq.length zh, .slice none 0 0, .slice none 0 0] from (nU _ _ (⟨7,0,0,(⟨jo,jp,jq⟩:S56),([]:List (S58)),([]:List (S58))⟩:S58) (Kd.eP (Kd.aW (ok':=(fun k_=>(w.heap.size≤k_)∧k_≠g)) (jA.out) (fun k_ hk=>⟨hk.1,hk.2⟩))).2.1 (Kd.N_F (Kd.aW (ok':=(fun k_=>(w.heap.size≤k_)∧k_≠g)) (jA.out) (fun k_ hk=>⟨hk.1,hk.2⟩))) (Nat.le_refl _) (Kd.nN _ _ _) (Nat.le_refl _) (Kd.nN _ _ _))) (dF.none _ _)));intro Ji Ju ho66 hb hg_ hnew_;clear hg_ hnew_;(first|rw [← jQ.out] at ho66|(simp only [Int.reduceToNat] at ho66;rw [← jQ.out] at ho66));have zi:=am (Kd.eU ho66 (aM (w:=w) (g:=g) (row:=none) fF));replace HK:=am (aC.trans fF (aC.of_below hb g none) (.inl rfl));replace HB:=am (aA iX hb);replace HI0:=am (aI.below fQ hb);clear jA hb ho66))
     go_ret
     exact ⟨_,gN,lN (Kd.aW zi.out (fun _ hk=>hk.1)),fQ,iX,fF⟩
theorem bR.step (k:Nat) (ih_spec_l92If:∀ m,m < k→dV.dJ m) (ih_spec_l92Loop:∀ m,m < k→fA.dJ m) (ih_spec_l92Stmt:∀ m,m < k→bD.dJ m) (ih_spec_l92Block:∀ m,m < k→bR.dJ m):bR.dJ k:=by
 intro g j7 j9 a1 a2 a3 a4 r1 r2 w0 w hI hB h
 cases k with
 |zero=>exact absurd h (by simp [bR.f])
 |succ k=>
 simp only [bR.f] at h
 have HI0:=am hI
 have HK:=am (aC.refl w g none)
 have HL:=am hB.size
 clear hI
 have HW0:=am hB.size
 have HB:=am hB
 clear hB
 have H:(bR.l0 k a1 a2 a3 a4 (([]:List (S58))) 0 j7 j9)=some (r1,r2):=h
 clear h
 obtain ⟨jk,hy_⟩:∃ y_:List (S58),y_=(([]:List (S58))):=⟨_,rfl⟩
 replace H:(bR.l0 k a1 a2 a3 a4 jk 0 j7 j9)=some (r1,r2):=rx_
 have ja:=am hy_
 clear hy_
 have H':=am H
 clear H
 go_enter Tryz.func82,Tryz.ntmps82
 go_wp2_with (first|((with_reducible refine cK (N:=13) rfl ?_);refine Kd.wO k58 _ 58 rfl (N':=13) rfl (xs:=([]:List (S58))) (inner:=[]) (ok:=(fun k_=>(w.heap.size≤k_)∧k_≠g)) (okp:=(fun k_=>(w.heap.size≤k_)∧k_≠g)) rn_ ?hp (fun _ hk=>hk) ((show ∀ k_,w.heap.size≤k_→(fun k_=>(w.heap.size≤k_)∧k_≠g) k_ from fun k_ hk=>⟨(Nat.le_trans (aM (w:=w) (g:=g) (row:=none) fF) hk),aI.fresh fQ k_ hk⟩) _ (Nat.le_refl _)) (Below.refl _ _) (Nat.le_refl _) (by simp) ?_;(case hp=>exact (dF.none _ _));intro jq w6 ho7 hb hg_ hnew_;clear hg_ hnew_;(first|rw [← ja.out] at ho7|(simp only [Int.reduceToNat] at ho7;rw [← ja.out] at ho7));have jd:=am (Kd.eU ho7 (aM (w:=w) (g:=g) (row:=none) fF));replace HK:=am (aC.trans fF (aC.of_below hb g none) (.inl rfl));replace HB:=am (aA iX hb);replace HI0:=am (aI.below fQ hb);clear hb ho7))
 go_loopg [11,12] k (fun kq jm jn w'=>∃ (j5:List (S58)) (j3:Int) (j6:Int),jn= .int .i64 j3∧Aside0 (bR.l0 kq a1 a2 a3 a4 j5 j3 j7 j6=some (r1,r2))∧Aside0 (kq≤k)∧Aside0 (Kd.N k58 58 w' w.heap.size (fun k_=>(w.heap.size≤k_)∧k_≠g) jm j5)∧Aside0 (aI w0 w' g j7 j6)∧Aside0 (aC w w' g none)∧Aside0 (Below w0.heap.size w0 w'))
 case atStart=>exact ⟨(jk),(0),(j9),sd_,H',⟨Nat.le_refl _⟩,⟨lN jd.out⟩,⟨fQ⟩,⟨fF⟩,⟨iX⟩⟩
 case round=>
  clear H'
  obtain ⟨j5,j3,j6,rfl,HA,je,j4,HI0,HK,HB⟩:=hrel
  cases gk with
  |zero=>exact absurd HA.out (by simp [bR.l0])
  |succ k1=>
   have H:=HA.out
   clear HA
   simp only [bR.l0] at H
   by_cases c8:j3 < a3
   ·rw [if_pos c8] at H
    have jf:decide (j3 < a3)=true:=decide_eq_true c8
    clear c8
    obtain ⟨⟨jc,jg⟩,A9,H⟩:=bsa H
    (try dsimp only at H)
    by_cases c10:j5.length + jc.length < 1256584717458
    ·rw [if_pos c10] at H
     have jb:=am c10
     clear c10
     obtain ⟨jl,hy_⟩:∃ y_:List (S58),y_=(j5 ++ jc):=⟨_,rfl⟩
     replace H:(bR.l0 k1 a1 a2 a3 a4 jl (wrap64 (j3 + 1)) j7 jg)=some (r1,r2):=rx_
     have jh:=am hy_
     clear hy_
     have H':=am H
     clear H
     go_wp2_with (first|((with_reducible refine aD (f:=107) rfl ?_);refine gl_ 24 Tryz.func107 #[.pointer (some ⟨g,0,none⟩), .int .i64 a1, .int .i64 a2, .bool a4] ?_;(with_reducible refine (ih_spec_l92Stmt k1 (by have:=je.out;omega) g j7 j6 a1 a2 a4 jc jg w0 _ ?side1 ?side2 A9.out).mono ?_);(case side1=>exact fQ);(case side2=>exact iX);rintro e jr ⟨js,rfl,ho0,hi,hb,hk⟩;refine ⟨_,rfl,?_⟩;have j8:=am (Kd.eU (Kd.aW (ok':=fun k_=>(w.heap.size≤k_)∧some k_≠(u11:Value).ownBlock∧k_≠g) ho0 (fun k_ hk_=>⟨(Nat.le_trans (aM (w:=w) (g:=g) (row:=none) fF) hk_),(Kd.fresh' (Kd.uG (aN_ j4.out)) k_ hk_),(aI.fresh fQ k_ hk_)⟩)) (aM (w:=w) (g:=g) (row:=none) fF));replace j4:=am (Kd.aW (Kd.uH (Kd.wE (Kd.aW (ok:=fun k_=>(((w.heap.size≤k_))∧k_≠g)) (aN_ j4.out) (fun k_ hk_=>(⟨hk_,hk_.2⟩:_∧k_≠g))) hk) (by first|exact Kd.kC ho0|exact Kd.kC (Kd.R_N ho0))) (fun _ h_=>h_.1));replace HK:=am (aC.trans fF hk (.inl rfl));replace HB:=am (hb);replace HI0:=am (hi);(try clear hb);(try clear hk);(try clear hi);(try clear ho0);obtain ⟨jo,jp,ji⟩:=Kd.eF j8.out;subst ji)|((with_reducible refine dS (b:= .append) (xs:=#[.tmp 19, .tmp 24]) rfl ?_);at_builtin;refine Kd.AB k58 w.heap.size rfl (.tmp 19) (.tmp 24) 33 58 (.agg #[(.int .i64 0),(.int .i64 0),(.int .i64 0),(.int .i64 0),(.int .i64 0),(.slice none 0 0),(.slice none 0 0),(.slice none 0 0)]) 112 rfl Tryz.underlying33 KO rfl (by decide) (by omega) u11 j5 jc _ _ _ (fun k_=>(w.heap.size≤k_)∧k_≠g) (fun k_=>((fun k_=>(w.heap.size≤k_)∧k_≠g)) k_∧some k_≠(u11:Value).ownBlock) rfl rfl ?aO ?aR (fun _ hk=>hk) ?aF (Below.refl _ _) ?aS ?aL ?_;(case aR=>exact (by skip;exact Kd.N_F (Kd.aW (ok':=(fun k_=>((fun k_=>(w.heap.size≤k_)∧k_≠g)) k_∧some k_≠(u11:Value).ownBlock)) (j8.out) (fun k_ hk=>⟨⟨hk.1,hk.2.2⟩,hk.2.1⟩))));(case aF=>exact (fun k_ hk=>⟨(Nat.le_trans (aM (w:=w) (g:=g) (row:=none) fF) hk),aI.fresh fQ k_ hk⟩));(case aO=>exact (lN (Kd.aW j4.out (fun _ hk=>⟨hk.1.1,hk.1.2⟩))));(case aS=>exact (aM (w:=w) (g:=g) (row:=none) fF));(case aL=>have:=jb.out;omega);intro jt ju ho hb hg hat;rw [← jh.out] at ho;replace j8:=am (Kd.IU (ok:=(fun k_=>(w.heap.size≤k_)∧k_≠g)) (lN (Kd.aW j8.out (fun _ hk=>⟨⟨hk.1,hk.2.2⟩,hk.2.1⟩))) hg hat);replace HB:=am (nS iX HL.out hb);replace HI0:=am (aI.grown fQ hg (aI.DJ HI0.out j4.out (by decide)));replace HK:=am (aC.trans fF (aC.fV hg g) (Kd.HZ j4.out));have jj:=am (ho);clear j4 ho hb hg hat))
     go_roundg k1
     case measure=>have:=je.out;omega
     case rel=>exact ⟨(jl),(wrap64 (j3 + 1)),(jg),sd_,H',⟨by have:=je.out;omega⟩,⟨lN jj.out⟩,⟨fQ⟩,⟨fF⟩,⟨iX⟩⟩
    rw [if_neg c10] at H
    exact absurd H (by simp)
   rw [if_neg c8] at H
   have jf:decide (j3 < a3)=false:=decide_eq_false c8
   clear c8
   simp only [Option.some.injEq,Prod.mk.injEq] at H
   obtain ⟨rfl,rfl⟩:=H
   go_wp2
   go_ret
   exact ⟨_,gN,lN (Kd.aW j4.out (fun _ hk=>hk.1)),fQ,iX,fF⟩
theorem dV.calls_all (k:Nat):dV.dJ k∧fA.dJ k∧bD.dJ k∧bR.dJ k:=by
 induction k using Nat.strongRecOn with
 | _ k ih=>exact ⟨dV.step k (ih_spec_l92If:=fun m hm=>(ih m hm).1) (ih_spec_l92Loop:=fun m hm=>(ih m hm).2.1) (ih_spec_l92Stmt:=fun m hm=>(ih m hm).2.2.1) (ih_spec_l92Block:=fun m hm=>(ih m hm).2.2.2),fA.step k (ih_spec_l92If:=fun m hm=>(ih m hm).1) (ih_spec_l92Loop:=fun m hm=>(ih m hm).2.1) (ih_spec_l92Stmt:=fun m hm=>(ih m hm).2.2.1) (ih_spec_l92Block:=fun m hm=>(ih m hm).2.2.2),bD.step k (ih_spec_l92If:=fun m hm=>(ih m hm).1) (ih_spec_l92Loop:=fun m hm=>(ih m hm).2.1) (ih_spec_l92Stmt:=fun m hm=>(ih m hm).2.2.1) (ih_spec_l92Block:=fun m hm=>(ih m hm).2.2.2),bR.step k (ih_spec_l92If:=fun m hm=>(ih m hm).1) (ih_spec_l92Loop:=fun m hm=>(ih m hm).2.1) (ih_spec_l92Stmt:=fun m hm=>(ih m hm).2.2.1) (ih_spec_l92Block:=fun m hm=>(ih m hm).2.2.2)⟩
theorem dV.calls (k:Nat):dV.dJ k:=(dV.calls_all k).1
theorem fA.calls (k:Nat):fA.dJ k:=(dV.calls_all k).2.1
theorem bD.calls (k:Nat):bD.dJ k:=(dV.calls_all k).2.2.1
theorem bR.calls (k:Nat):bR.dJ k:=(dV.calls_all k).2.2.2
theorem dY.mono_l:∀ k,(∀ y0 y1 y2,LeO (dY.l0 k y0 y1 y2) (dY.l0 (k + 1) y0 y1 y2))
 |0=>fun _ _ _ r h=>by simp [dY.l0] at h
 |k + 1=>by
  have ih0:=dY.mono_l k
  ·intro y0 y1 y2
   unfold dY.l0
   have m0:=@bQ.mono
   have m1:=@aG.mono
   have m2:=@bR.mono
   exact mo_
theorem dY.mono:∀ a0 a1 a2 k,LeO (dY.f k a0 a1 a2) (dY.f (k + 1) a0 a1 a2):=by
 intro a0 a1 a2 k
 have ih0:=dY.mono_l k
 unfold dY.f
 have m0:=@bQ.mono
 have m1:=@aG.mono
 have m2:=@bR.mono
 exact mo_
theorem dY.calls (k:Nat) (g:Nat) (j5:List Int) (j6:Int) (a1:Int) (r1:List (S58)) (r2:Int) (w0 w:World) (hI:aI w0 w g j5 j6) (hB:Below w0.heap.size w0 w) (h:dY.f k j5 j6 a1=some (r1,r2)):
  Calls Tryz.prog 60 #[.pointer (some ⟨g,0,none⟩), .int .i64 a1] w fun e w'=>∃ v0_:Value,e= .returned (v0_)∧Kd.N k58 58 w' w.heap.size (fun k_=>(w.heap.size≤k_)) v0_ r1∧aI w0 w' g j5 r2∧Below w0.heap.size w0 w'∧aC w w' g none:=by
 have HI0:=am hI
 have HK:=am (aC.refl w g none)
 have HL:=am hB.size
 clear hI
 have HW0:=am hB.size
 have HB:=am hB
 clear hB
 unfold dY.f at h
 have H:=h
 clear h
 obtain ⟨⟨je,jo⟩,A3,H⟩:=bsa H
 (try dsimp only at H)
 obtain ⟨⟨jp,j7⟩,A4,H⟩:=bsa H
 (try dsimp only at H)
 have H':=am H
 clear H
 go_enter Tryz.func60,Tryz.ntmps60
 go_wp2_with (first|((with_reducible refine aD (f:=37) rfl ?_);refine gl_ 9 Tryz.func37 #[.pointer (some ⟨g,0,none⟩), .int .i64 6] ?_;(with_reducible refine (aG.calls k g j5 j6 6 je jo w0 _ ?side1 ?side2 A3.out).mono ?_);(case side1=>exact fQ);(case side2=>exact iX);rintro e w5 ⟨rfl,hi,hb,hk⟩;refine ⟨_,rfl,?_⟩;replace HK:=am (aC.trans fF hk (.inl rfl));replace HB:=am (hb);replace HI0:=am (hi);(try clear hb);(try clear hk);(try clear hi))|((with_reducible refine aD (f:=82) rfl ?_);refine gl_ 11 Tryz.func82 #[.pointer (some ⟨g,0,none⟩), .int .i64 a1, .int .i64 3, .int .i64 (wrap64 (1 + je)), .bool true] ?_;(with_reducible refine (bR.calls k g j5 jo a1 3 (wrap64 (1 + je)) true jp j7 w0 _ ?side1 ?side2 A4.out).mono ?_);(case side1=>exact fQ);(case side2=>exact iX);rintro e w6 ⟨jw,rfl,ho0,hi,hb,hk⟩;refine ⟨_,rfl,?_⟩;have jf:=am (Kd.eU (Kd.aW (ok':=fun k_=>(w.heap.size≤k_)∧k_≠g) ho0 (fun k_ hk_=>⟨(Nat.le_trans (aM (w:=w) (g:=g) (row:=none) fF) hk_),(aI.fresh fQ k_ hk_)⟩)) (aM (w:=w) (g:=g) (row:=none) fF));replace HK:=am (aC.trans fF hk (.inl rfl));replace HB:=am (hb);replace HI0:=am (hi);(try clear hb);(try clear hk);(try clear hi);(try clear ho0)))
 go_loopg [5] k (fun kq v5 w'=>∃ (j3:List (S58)),Aside0 (dY.l0 kq j3 j5 j7=some (r1,r2))∧Aside0 (kq≤k)∧Aside0 (Kd.N k58 58 w' w.heap.size (fun k_=>(w.heap.size≤k_)∧k_≠g) v5 j3)∧Aside0 (aI w0 w' g j5 j7)∧Aside0 (aC w w' g none)∧Aside0 (Below w0.heap.size w0 w'))
 case atStart=>exact ⟨(jp),H',⟨Nat.le_refl _⟩,⟨lN jf.out⟩,⟨fQ⟩,⟨fF⟩,⟨iX⟩⟩
 case round=>
  clear H'
  obtain ⟨j3,HA,jq,j4,HI0,HK,HB⟩:=hrel
  cases gk with
  |zero=>exact absurd HA.out (by simp [dY.l0])
  |succ k1=>
   have H:=HA.out
   clear HA
   simp only [dY.l0] at H
   obtain ⟨j8,A7,H⟩:=bsa H
   (try dsimp only at H)
   by_cases c8:j8 > 16
   ·rw [if_pos c8] at H
    have jg:decide (16 < j8)=true:=decide_eq_true c8
    clear c8
    obtain ⟨ji9,hji9⟩:∃ j_:Int,(wrap64 ((j3.length:Int) - 1))=j_:=⟨_,rfl⟩
    replace H:(if 0≤(ji9) then (if (ji9)≤(j3.length:Int) then (dY.l0 k1 (j3.take ((ji9):Int).toNat) j5 j7) else (none)) else (none))=some (r1,r2):=by first|(rw [hji9] at H;exact H)|(simp only [hji9] at H ⊢;exact H)
    (try rw [hji9] at A7)
    have hji9w:(IntKind.i64.wrap ((j3.length:Int) - 1))=ji9:=(fI _).trans hji9
    by_cases c10:0≤(ji9)
    ·rw [if_pos c10] at H
     have jr:=eq_true c10
     have js:decide (0≤(ji9))=true:=decide_eq_true c10
     clear c10
     by_cases j9:(ji9)≤(j3.length:Int)
     ·rw [if_pos j9] at H
      have jt:=eq_true j9
      have ju:decide ((ji9)≤(j3.length:Int))=true:=decide_eq_true j9
      clear j9
      obtain ⟨jh,hy_⟩:∃ y_:List (S58),y_=(j3.take ((ji9):Int).toNat):=⟨_,rfl⟩
      replace H:(dY.l0 k1 jh j5 j7)=some (r1,r2):=rx_
      have ja:=am hy_
      clear hy_
      have H':=am H
      clear H
      obtain ⟨jb,jc,ji⟩:=Kd.eF j4.out
      subst ji
      go_wp2_with (first|((with_reducible refine aD (f:=71) rfl ?_);refine gl_ 13 Tryz.func71 #[.slice jb j3.length jc] ?_;(with_reducible refine (bQ.calls k1 _ _ j3 j8 _ (aC_ (Kd.eP j4.out).2.2) (Kd.eP j4.out).2.1 A7.out).mono ?_);rintro e jx ⟨rfl,hb⟩;refine ⟨_,rfl,?_⟩;replace j4:=am (Kd.kH (aN_ j4.out) hb);replace HK:=am (aC.trans fF (aC.of_below hb g none) (.inl rfl));replace HB:=am (aA iX hb);replace HI0:=am (aI.below fQ hb);(try clear hb);have jj:((ji9):Int)≤((j3.length:Int):Int):=of_decide_eq_true eB;obtain ⟨jv,hi28,_,hsz14,_⟩:=info_parts KO;have hcut14:=aGu (P:=Tryz.prog) 33 58 .i64 Tryz.underlying33 hi28 jb j3.length jc (ji9) (of_decide_eq_true eB) jj (Kd.eP j4.out).2.1;have hr14:=Kd.aGi (m:=((ji9):Int).toNat) j4.out (by omega);have jd:jh.length=((ji9):Int).toNat:=(by rw [ja.out,List.length_take];omega);rw [← ja.out] at hr14;rw [← jd] at hr14 hcut14;clear jd hi28 hsz14 j4;have jk:=am hr14;clear hr14;replace jj:=eq_true jj))
      go_roundg k1
      case measure=>have:=jq.out;omega
      case rel=>exact ⟨(jh),H',⟨by have:=jq.out;omega⟩,⟨lN jk.out⟩,⟨fQ⟩,⟨fF⟩,⟨iX⟩⟩
     rw [if_neg j9] at H
     exact absurd H (by simp)
    rw [if_neg c10] at H
    exact absurd H (by simp)
   rw [if_neg c8] at H
   have jg:decide (16 < j8)=false:=decide_eq_false c8
   clear c8
   simp only [Option.some.injEq,Prod.mk.injEq] at H
   obtain ⟨rfl,rfl⟩:=H
   obtain ⟨jl,jm,jn⟩:=Kd.eF j4.out
   subst jn
   go_wp2_with (first|((with_reducible refine aD (f:=71) rfl ?_);refine gl_ 13 Tryz.func71 #[.slice jl j3.length jm] ?_;(with_reducible refine (bQ.calls k1 _ _ j3 j8 _ (aC_ (Kd.eP j4.out).2.2) (Kd.eP j4.out).2.1 A7.out).mono ?_);rintro e jy ⟨rfl,hb⟩;refine ⟨_,rfl,?_⟩;replace j4:=am (Kd.kH (aN_ j4.out) hb);replace HK:=am (aC.trans fF (aC.of_below hb g none) (.inl rfl));replace HB:=am (aA iX hb);replace HI0:=am (aI.below fQ hb);(try clear hb)))
   go_ret
   exact ⟨_,gN,lN (Kd.aW j4.out (fun _ hk=>hk.1)),fQ,iX,fF⟩
theorem gU.mono:∀ a0 a1 k,LeO (gU.f k a0 a1) (gU.f (k + 1) a0 a1):=by
 intro a0 a1 k
 unfold gU.f
 have m0:=@aG.mono
 have m1:=@bR.mono
 exact mo_
theorem gU.calls (k:Nat) (g:Nat) (j5:List Int) (j8:Int) (r1:Int) (r2:Int) (r3:Int) (r4:Int) (r5:Int) (r6:List (S56)) (r7:List (S58)) (r8:List (S58)) (r9:Int) (w0 w:World) (hI:aI w0 w g j5 j8) (hB:Below w0.heap.size w0 w) (h:gU.f k j5 j8=some (r1,r2,r3,r4,r5,r6,r7,r8,r9)):
  Calls Tryz.prog 61 #[.pointer (some ⟨g,0,none⟩)] w fun e w'=>∃ v5_ v6_ v7_:Value,e= .returned (.agg #[.int .i64 r1, .int .i64 r2, .int .i64 r3, .int .i64 r4, .int .i64 r5,v5_,v6_,v7_])∧Kd.N k56 56 w' w.heap.size (fun k_=>(w.heap.size≤k_)∧some k_≠(v6_:Value).ownBlock∧some k_≠(v7_:Value).ownBlock) v5_ r6∧Kd.N k58 58 w' w.heap.size (fun k_=>(w.heap.size≤k_)∧some k_≠(v5_:Value).ownBlock∧some k_≠(v7_:Value).ownBlock) v6_ r7∧Kd.N k58 58 w' w.heap.size (fun k_=>(w.heap.size≤k_)∧some k_≠(v5_:Value).ownBlock∧some k_≠(v6_:Value).ownBlock) v7_ r8∧aI w0 w' g j5 r9∧Below w0.heap.size w0 w'∧aC w w' g none:=by
 have hu58:=Tryz.underlying58
 have HI0:=am hI
 have HK:=am (aC.refl w g none)
 have HL:=am hB.size
 clear hI
 have HW0:=am hB.size
 have HB:=am hB
 clear hB
 unfold gU.f at h
 have H:=h
 clear h
 obtain ⟨⟨jc,jd,je⟩,A2,H⟩:=bsa H
 (try dsimp only at H)
 obtain ⟨⟨jw,jA⟩,A3,H⟩:=bsa H
 (try dsimp only at H)
 obtain ⟨⟨jf,jD⟩,A4,H⟩:=bsa H
 (try dsimp only at H)
 simp only [Option.some.injEq,Prod.mk.injEq] at H
 obtain ⟨rfl,rfl,rfl,rfl,rfl,rfl,rfl,rfl,rfl⟩:=H
 go_enter Tryz.func61,Tryz.ntmps61
 go_wp2_with (first|((with_reducible refine cK (N:=2) rfl ?_);refine eO rfl (N:=2) rfl (cs:=#[.int .i64 0, .int .i64 0, .int .i64 0, .int .i64 0, .int .i64 0, .slice none 0 0, .slice none 0 0, .slice none 0 0]) (t:=58) rn_ ?_;intro j3 hg w5 hbox hb;replace HB:=am (aA iX hb);have j4:=am (hbox);have GW28:=am ((by rw [hg];exact (aM (w:=w) (g:=g) (row:=none) fF):w.heap.size≤j3));have GE28:=am ((Nat.le_trans HW0.out (by rw [hg];exact (aM (w:=w) (g:=g) (row:=none) fF):w.heap.size≤j3):w0.heap.size≤j3));replace HK:=am (aC.trans fF (aC.of_below hb g none) (.inl rfl));have NB0_28:=am ((by rw [hg];exact Nat.ne_of_lt (aI.lt (show aI w0 _ g j5 j8 from fQ)):g≠j3));have j6:=am ((by rw [hg];exact Nat.ne_of_gt (aI.lt (show aI w0 _ g j5 j8 from fQ)):j3≠g));replace HI0:=am (aI.below fQ hb);clear hb hbox hg)|((with_reducible refine aD (f:=62) rfl ?_);refine gl_ 3 Tryz.func62 #[.int .i64 0, .int .i64 1] ?_;(with_reducible refine (iC.calls 0 1 jc jd je _ A2.out).mono ?_);rintro e w6 ⟨jE,rfl,ho0,hb⟩;refine ⟨_,rfl,?_⟩;have j7:=am (Kd.eU (Kd.aW (ok':=fun k_=>(w.heap.size≤k_)∧k_≠j3∧k_≠g) (Kd.R_N (Kd.oI ho0)) (fun k_ hk_=>⟨(Nat.le_trans (aM (w:=w) (g:=g) (row:=none) FL) hk_.2.1),(lJ j4.out k_ hk_.2.1),(aI.fresh NG k_ hk_.2.1)⟩)) (aM (w:=w) (g:=g) (row:=none) FL));replace j4:=bbP j4 hb;replace HK:=am (aC.trans FL (aC.of_below hb g none) (.inl rfl));replace HB:=am (aA aAt hb);replace HI0:=am (aI.below NG hb);(try clear hb);(try clear ho0))|((with_reducible refine aD (f:=37) rfl ?_);refine gl_ 6 Tryz.func37 #[.pointer (some ⟨g,0,none⟩), .int .i64 2] ?_;(with_reducible refine (aG.calls k g j5 j8 2 jw jA w0 _ ?side1 ?side2 A3.out).mono ?_);(case side1=>exact NG);(case side2=>exact aAt);rintro e w7 ⟨rfl,hi,hb,hk⟩;refine ⟨_,rfl,?_⟩;replace j4:=am (aC.blk hk (g':=j3) (o:= .cells #[.int .i64 0, .int .i64 0, .int .i64 0, .int .i64 0, .int .i64 0, .slice none 0 0, .slice none 0 0, .slice none 0 0] 58 (0,0)) (aG_ j4.out) j6.out (by simp));replace j7:=am (Kd.aW (Kd.pF (Kd.aW (ok:=fun k_=>(((w.heap.size≤k_))∧(k_≠j3∧k_≠g))) (aN_ j7.out) (fun k_ hk_=>(⟨hk_,hk_.2.2⟩:_∧k_≠g))) hk (fun _ h=>h.2)) (fun _ h=>h.1));replace HK:=am (aC.trans FL hk (.inl rfl));replace HB:=am (hb);replace HI0:=am (hi);(try clear hb);(try clear hk);(try clear hi))|((with_reducible refine aD (f:=82) rfl ?_);refine gl_ 7 Tryz.func82 #[.pointer (some ⟨g,0,none⟩), .int .i64 0, .int .i64 1, .int .i64 jw, .bool false] ?_;(with_reducible refine (bR.calls k g j5 jA 0 1 jw false jf jD w0 _ ?side1 ?side2 A4.out).mono ?_);(case side1=>exact NG);(case side2=>exact aAt);rintro e w8 ⟨jG,rfl,ho0,hi,hb,hk⟩;refine ⟨_,rfl,?_⟩;have jb:=am (Kd.eU (Kd.aW (ok':=fun k_=>(w.heap.size≤k_)∧some k_≠(jE:Value).ownBlock∧k_≠j3∧k_≠g) ho0 (fun k_ hk_=>⟨(Nat.le_trans (aM (w:=w) (g:=g) (row:=none) FL) hk_),(Kd.fresh' (Kd.uG (aN_ j7.out)) k_ hk_),(lJ j4.out k_ hk_),(aI.fresh NG k_ hk_)⟩)) (aM (w:=w) (g:=g) (row:=none) FL));replace j4:=am (aC.blk hk (g':=j3) (o:= .cells #[.int .i64 0, .int .i64 0, .int .i64 0, .int .i64 0, .int .i64 0, .slice none 0 0, .slice none 0 0, .slice none 0 0] 58 (0,0)) (aG_ j4.out) j6.out (by simp));replace j7:=am (Kd.aW (Kd.uH (Kd.wE (Kd.aW (ok:=fun k_=>(((w.heap.size≤k_))∧(k_≠j3∧k_≠g))) (aN_ j7.out) (fun k_ hk_=>(⟨hk_,hk_.2.2⟩:_∧k_≠g))) hk) (by first|exact Kd.kC ho0|exact Kd.kC (Kd.R_N ho0))) (fun _ h_=>h_.1));replace HK:=am (aC.trans FL hk (.inl rfl));replace HB:=am (hb);replace HI0:=am (hi);(try clear hb);(try clear hk);(try clear hi);(try clear ho0);obtain ⟨jx,jy,jF⟩:=Kd.eF jb.out;subst jF;obtain ⟨j9,ja,jz⟩:=Kd.eF j7.out;subst jz;have jB:=j6.out;have jC:=NB0_28.out;obtain ⟨jg,jh,ji,jj,jk,jl,jm,jn,jo,jp,jq,jr,js,jt,ju,jv⟩:=fH j4.out))
 refine bodyPost_ret (results_cell_row rfl _ _ j3 58 #[.int .i64 3, .int .i64 0, .int .i64 0, .int .i64 jc, .int .i64 jd, .slice j9 je.length ja, .slice jx jf.length jy, .slice none 0 0] (0,0) _ rfl (aY (aY (aY (aY (aY (aY (aY (aY j4.out 0 _ rfl) 1 _ rfl) 2 _ rfl) 3 _ rfl) 4 _ rfl) 5 _ rfl) 6 _ rfl) 7 _ rfl) Tryz.underlying58 rfl (by kernel_rfl)) rfl ?_
 exact ⟨_,_,_,gN,lN (Kd.aW (Kd.dB (p:=⟨j3,7,none⟩) (Kd.dB (p:=⟨j3,6,none⟩) (Kd.dB (p:=⟨j3,5,none⟩) (Kd.dB (p:=⟨j3,4,none⟩) (Kd.dB (p:=⟨j3,3,none⟩) (Kd.dB (p:=⟨j3,2,none⟩) (Kd.dB (p:=⟨j3,1,none⟩) (Kd.dB (p:=⟨j3,0,none⟩) (Kd.aW j7.out (fun k_ hk=>(⟨hk,hk.1.2.1⟩:_∧k_≠j3))) (fun _ hk=>hk.2) (.int .i64 3)) (fun _ hk=>hk.2) (.int .i64 0)) (fun _ hk=>hk.2) (.int .i64 0)) (fun _ hk=>hk.2) (.int .i64 jc)) (fun _ hk=>hk.2) (.int .i64 jd)) (fun _ hk=>hk.2) (.slice j9 je.length ja)) (fun _ hk=>hk.2) (.slice jx jf.length jy)) (fun _ hk=>hk.2) (.slice none 0 0)) (fun _ hk=>⟨hk.1.1.1,⟨hk.1.2,(by simp [Value.ownBlock])⟩⟩)),lN (Kd.aW (Kd.dB (p:=⟨j3,7,none⟩) (Kd.dB (p:=⟨j3,6,none⟩) (Kd.dB (p:=⟨j3,5,none⟩) (Kd.dB (p:=⟨j3,4,none⟩) (Kd.dB (p:=⟨j3,3,none⟩) (Kd.dB (p:=⟨j3,2,none⟩) (Kd.dB (p:=⟨j3,1,none⟩) (Kd.dB (p:=⟨j3,0,none⟩) (Kd.aW jb.out (fun k_ hk=>(⟨hk,hk.2.2.1⟩:_∧k_≠j3))) (fun _ hk=>hk.2) (.int .i64 3)) (fun _ hk=>hk.2) (.int .i64 0)) (fun _ hk=>hk.2) (.int .i64 0)) (fun _ hk=>hk.2) (.int .i64 jc)) (fun _ hk=>hk.2) (.int .i64 jd)) (fun _ hk=>hk.2) (.slice j9 je.length ja)) (fun _ hk=>hk.2) (.slice jx jf.length jy)) (fun _ hk=>hk.2) (.slice none 0 0)) (fun _ hk=>⟨hk.1.1,⟨hk.1.2.1,(by simp [Value.ownBlock])⟩⟩)),by first|exact Kd.uI _ _ _ _ _|exact Kd.wP _ _ _ _ _|exact Kd.wS _ _ _ _ _|exact Kd.wQ _ _ _ _ _|exact Kd.wR _ _ _ _ _,NG,aAt,FL⟩
theorem bS.mono_l:∀ k,(∀ y0 y1 y2 y3 y4 y5,LeO (bS.l0 k y0 y1 y2 y3 y4 y5) (bS.l0 (k + 1) y0 y1 y2 y3 y4 y5))
 |0=>fun _ _ _ _ _ _ r h=>by simp [bS.l0] at h
 |k + 1=>by
  have ih0:=bS.mono_l k
  ·intro y0 y1 y2 y3 y4 y5
   unfold bS.l0
   have m0:=@aG.mono
   have m1:=@gU.mono
   have m2:=@dR.mono
   have m3:=@dY.mono
   exact mo_
theorem bS.mono:∀ a0 a1 k,LeO (bS.f k a0 a1) (bS.f (k + 1) a0 a1):=by
 intro a0 a1 k
 have ih0:=bS.mono_l k
 unfold bS.f
 have m0:=@aG.mono
 have m1:=@gU.mono
 have m2:=@dR.mono
 have m3:=@dY.mono
 exact mo_
def bS.T6:Bool × List (List Nat × List Nat):=(true,[([],[]),([0],[0]),([],[]),([],[]),([3],[3]),([4],[4]),([2,5],[2,5]),([6],[6]),([1,7,6],[1,7]),([0,1,2,3,4,5,6,7,8],[]),([9,8,8,0,1,2,3,4,5,6,7,8],[8,9])])
def bS.B6:List Nat:=[0,1,0,0,8,24,60,124,255,511,1023]
theorem bS.PN:lV .any (opsOf Tryz.f36 6)=bS.T6:=by kernel_rfl
theorem bS.CQ:iP bS.T6.2 bS.B6=true:=by kernel_rfl
def TF (w:World) (base:Nat) (ok:Nat→Prop) (v:Value) (ts:List (List S58)):Prop:=
 (∀ k,v.ownBlock=some k→ok k)∧∃ (P:Nat→Prop) (rows:List (List Value)),rows.length=ts.length∧(Kd.raw 1).R 33 w base (fun k=>some k=v.ownBlock) v rows∧
  (∀ t c,ts[0]?=some t→rows[0]?=some c→∃ u,c=[u]∧Kd.N k58 58 w base (fun k=>(ok k∧some k≠v.ownBlock)∧P k) u t)∧
  (∀ j t c,ts[j + 1]?=some t→rows[j + 1]?=some c→Kd.FK (Kd.slice 58 k58) w (fun k=>(ok k∧some k≠v.ownBlock)∧¬ P k) t c)
section
variable {w w1 W:World} {base base' g:Nat} {ok ok':Nat→Prop} {v:Value} {ts:List (List S58)}
theorem EF (h:TF w base ok v ts):Kd.N (Kd.slice 58 k58) 33 w base ok v ts:=by
 obtain ⟨h0,P,rows,hl,hR,he,hf⟩:=h
 refine ⟨h0,rows,hl,hR,fun j x c hx hc=>?_⟩
 cases j with
 |zero=>
  obtain ⟨u,rfl,hn⟩:=he x c hx hc
  obtain ⟨A,cc,rfl⟩:=Kd.eF hn
  exact Kd.mZ (Kd.nM (Kd.eP hn).2.1 (Kd.N_F hn)) (fun k hk=>hk.1)
 |succ j=>exact Kd.mZ (hf j x c hx hc) (fun k hk=>hk.1)
theorem OO (h:TF w base ok v ts) (hm:∀ k,ok k→k < w.heap.size→w1.heap[k]?=w.heap[k]?):TF w1 base ok v ts:=by
 obtain ⟨h0,P,rows,hl,hR,he,hf⟩:=h
 refine ⟨h0,P,rows,hl,Kd.BG hR (fun k hk hlt=>hm k (h0 k hk.symm) hlt),fun t c ht hc=>?_,fun j t c ht hc=>Kd.rE (hf j t c ht hc) (fun k hk hlt=>hm k hk.1.1 hlt)⟩
 obtain ⟨u,rfl,hn⟩:=he t c ht hc
 exact ⟨u,rfl,Kd.tH hn (fun k hk hlt=>hm k hk.1.1 hlt)⟩
theorem mH (h:TF w base ok v ts) (hok:∀ k,ok k→ok' k):TF w base ok' v ts:=by
 obtain ⟨h0,P,rows,hl,hR,he,hf⟩:=h
 refine ⟨fun k hk=>hok k (h0 k hk),P,rows,hl,hR,fun t c ht hc=>?_,fun j t c ht hc=>Kd.mZ (hf j t c ht hc) (fun k hk=>⟨⟨hok k hk.1.1,hk.1.2⟩,hk.2⟩)⟩
 obtain ⟨u,rfl,hn⟩:=he t c ht hc
 exact ⟨u,rfl,Kd.aW hn (fun k hk=>⟨⟨hok k hk.1.1,hk.1.2⟩,hk.2⟩)⟩
theorem IY (h:TF w base ok v ts):TF w base (fun k=>ok k∧k < w.heap.size) v ts:=by
 have hlt:=Kd.uG (EF h)
 obtain ⟨h0,P,rows,hl,hR,he,hf⟩:=h
 refine ⟨fun k hk=>⟨h0 k hk,hlt k hk⟩,P,rows,hl,hR,fun t c ht hc=>?_,fun j t c ht hc=>Kd.mZ (Kd.xD (hf j t c ht hc)) (fun k hk=>⟨⟨⟨hk.1.1.1,hk.2⟩,hk.1.1.2⟩,hk.1.2⟩)⟩
 obtain ⟨u,rfl,hn⟩:=he t c ht hc
 exact ⟨u,rfl,Kd.aW (Kd.oV hn) (fun k hk=>⟨⟨⟨hk.1.1.1,hk.2⟩,hk.1.1.2⟩,hk.1.2⟩)⟩
theorem xG (h:TF w base ok v ts) (hb:Below w.heap.size w w1):TF w1 base ok v ts:=OO h (fun k _ hk=>hb.block k hk)
theorem rH (h:TF w base ok v ts) (o:Obj):TF (w.alloc o) base ok v ts:=xG h (cZ (Below.refl _ _) o)
theorem rJ (h:TF w base ok v ts):TF w.drew base ok v ts:=xG h (pJ (Below.refl _ _))
theorem rM (h:TF w base ok v ts) (m:Nat):TF (w.drewN m) base ok v ts:=xG h (aU (Below.refl _ _) m)
theorem BI (h:TF w base ok v ts) {p:Addr} (hok:∀ k,ok k→k≠p.block) (u:Value):TF (w.setCell p u) base ok v ts:=OO h (fun k ho _=>Below.heap_setCell w p u k (hok k ho))
theorem IE (h:TF w base ok v ts) (hk:aC w w1 g none) (hok:∀ k,ok k→k≠g):TF w1 base ok v ts:=OO h (fun k ho hlt=>hk.2 k hlt (hok k ho) (by simp))
theorem aAp (h:TF w base (fun k=>ok k∧k≠g) v ts) (hk:aC w w1 g none):TF w1 base (fun k=>ok k∧k < w.heap.size) v ts:=mH (IE (IY h) hk (fun _ hk=>hk.1.2)) (fun _ hk=>⟨hk.1.1,hk.2⟩)
theorem aGp (h0:ts=[]) (h:Kd.N (Kd.slice 58 k58) 33 w base ok v ts):TF w base ok v ts:=by
 subst h0
 obtain ⟨h0,rows,hl,hR,hf⟩:=h
 exact ⟨h0,fun _=>False,rows,hl,hR,fun t c ht=>by simp at ht,fun j t c ht=>by simp at ht⟩
theorem PV {ok0 okp:Nat→Prop} {v1 u:Value} {p:List S58} {rows:List (List Value)} {P:Nat→Prop} (h0:∀ k,v.ownBlock=some k→ok0 k) (hl:rows.length=ts.length)
  (he:∀ t c,ts[0]?=some t→rows[0]?=some c→∃ u,c=[u]∧Kd.N k58 58 W base (fun k=>(ok0 k∧some k≠v.ownBlock)∧P k) u t)
  (hf:∀ j t c,ts[j + 1]?=some t→rows[j + 1]?=some c→Kd.FK (Kd.slice 58 k58) W (fun k=>(ok0 k∧some k≠v.ownBlock)∧¬ P k) t c)
  (hp:Kd.N k58 58 W base okp u p) (hokp:∀ k,okp k→ok k∧some k≠v.ownBlock) (hok0:∀ k,ok0 k→ok k) (hap:∀ k,ok0 k→¬ okp k) (hfresh:∀ k,W.heap.size≤k→ok k)
  (hR:(Kd.raw 1).R 33 w1 base (fun _=>True) v1 (rows ++ [[u]])) (hg:W.grownBy w1 v.ownBlock) (hat:v1.ownBlock=v.ownBlock∨∃ b,v1.ownBlock=some b∧W.heap.size≤b):TF w1 base ok v1 (ts ++ [p]):=by
 have hne:∀ k,some k≠v.ownBlock→k < W.heap.size→some k≠v1.ownBlock:=by
  intro k hk hlt
  rcases hat with hat|⟨b,hb,hle⟩
  ·rw [hat];exact hk
  ·rw [hb]
   intro he
   injection he with he
   omega
 have hown:∀ k,v1.ownBlock=some k→ok k:=by
  intro k hk
  rcases hat with hat|⟨b,hb,hle⟩
  ·exact hok0 k (h0 k (hat ▸ hk))
  ·rw [hb] at hk
   injection hk with hk
   exact hfresh k (by omega)
 have hpn:Kd.N k58 58 w1 base (fun k=>(ok k∧some k≠v1.ownBlock)∧okp k) u p:=
  Kd.aW (Kd.tH (Kd.oV hp) (fun k hk hlt=>hg.block k hlt (hokp k hk.1).2)) (fun k hk=>⟨⟨(hokp k hk.1).1,hne k (hokp k hk.1).2 hk.2⟩,hk.1⟩)
 cases ts with
 |nil=>
  have hr0:rows=[]:=List.eq_nil_of_length_eq_zero hl
  subst hr0
  refine ⟨hown,okp,[[u]],rfl,Kd.rC hR,fun t c ht hc=>?_,fun j t c ht hc=>by simp at ht⟩
  simp only [List.nil_append,List.getElem?_cons_zero,Option.some.injEq] at ht hc
  subst ht
  subst hc
  exact ⟨u,rfl,hpn⟩
 |cons t0 ts=>
  refine ⟨hown,fun k=>P k∧ok0 k,rows ++ [[u]],by rw [List.length_append,List.length_append,hl];rfl,Kd.rC hR,fun t c ht hc=>?_,fun j t c ht hc=>?_⟩
  ·rw [List.getElem?_append_left (by simp)] at ht
   rw [List.getElem?_append_left (by rw [hl];simp)] at hc
   obtain ⟨u0,rfl,hn⟩:=he t c ht hc
   exact ⟨u0,rfl,Kd.aW (Kd.tH (Kd.oV hn) (fun k hk hlt=>hg.block k hlt hk.1.1.2)) (fun k hk=>⟨⟨hok0 k hk.1.1.1,hne k hk.1.1.2 hk.2⟩,hk.1.2,hk.1.1.1⟩)⟩
  ·rcases Nat.lt_or_ge (j + 1) (t0 :: ts).length with hlt|hge
   ·rw [List.getElem?_append_left hlt] at ht
    rw [List.getElem?_append_left (by rw [hl];exact hlt)] at hc
    exact Kd.mZ (Kd.rE (Kd.xD (hf j t c ht hc)) (fun k hk hlt=>hg.block k hlt hk.1.1.2)) (fun k hk=>⟨⟨hok0 k hk.1.1.1,hne k hk.1.1.2 hk.2⟩,fun hq=>hk.1.2 hq.1⟩)
   ·rw [List.getElem?_append_right hge] at ht
    rw [List.getElem?_append_right (by rw [hl];exact hge),hl] at hc
    cases hj:j + 1 - (t0 :: ts).length with
    |succ m=>
     rw [hj] at ht
     simp at ht
    |zero=>
     rw [hj] at ht hc
     simp only [List.getElem?_cons_zero,Option.some.injEq] at ht hc
     subst ht
     subst hc
     obtain ⟨A,cc,rfl⟩:=Kd.eF hpn
     exact Kd.mZ (Kd.nM (Kd.eP hpn).2.1 (Kd.N_F hpn)) (fun k hk=>⟨hk.1,fun hq=>hap k hq.2 hk.2⟩)
theorem aGq {ok0 okp:Nat→Prop} {n cap:Nat} {u:Value} {p:List S58} (h:TF W base ok0 (.slice (some ⟨g,0,none⟩) n cap) ts) (hn:0 < ts.length) (hp:Kd.N k58 58 W base okp u p) (hokp:∀ k,okp k→ok k∧k≠g) (hok0:∀ k,ok0 k→ok k) (hap:∀ k,ok0 k→k≠g→¬ okp k):
  TF (W.setCells g ((0:Int).toNat * 1 + 0) [u]) base ok (.slice (some ⟨g,0,none⟩) n cap) (ts.set (0:Int).toNat p):=by
 have hgo:some g=(Value.slice (some ⟨g,0,none⟩) n cap).ownBlock:=by simp [Value.ownBlock]
 have hN:=EF h
 have hnn:=(Kd.eP hN).1
 obtain ⟨h0,P,rows,hl,hR,he,hf⟩:=h
 obtain ⟨c0,hc0⟩:∃ c,rows[0]?=some c:=⟨_,List.getElem?_eq_getElem (by omega)⟩
 obtain ⟨t0,ht0⟩:∃ t,ts[0]?=some t:=⟨_,List.getElem?_eq_getElem hn⟩
 obtain ⟨u0,rfl,j3⟩:=he t0 c0 ht0 hc0
 obtain ⟨c,hcl,hM,hcc,hfr⟩:=Kd.EC (Kd.rU hR) [] (0:Int) (by omega) (by omega)
 have hpo:u.oneCell'=true:=by
  obtain ⟨A,cc,rfl⟩:=Kd.eF hp
  rfl
 obtain ⟨h2,h3⟩:=Kd.aAn (Kd.rU hR) (0:Int) (by omega) (by omega) (c:=c) (seg:=[u]) (j:=0) (x':=[u]) (okp:=fun _=>False) hcl hcc (show 0 + [u].length≤1 from Nat.le_refl _) (by
  have e:c.take 0 ++ [u] ++ c.drop (0 + [u].length)=[u]:=by
   have:c.length=1:=hcl
   simp [List.drop_eq_nil_of_le (show c.length≤1 by omega)]
  rw [e]
  exact ⟨rfl,rfl,fun x hx=>by rw [List.mem_singleton] at hx;rw [hx];exact hpo⟩) (fun _ hk=>hk.elim)
 have hpn:Kd.N k58 58 (W.setCells g ((0:Int).toNat * 1 + 0) [u]) base (fun k=>(ok k∧some k≠(Value.slice (some ⟨g,0,none⟩) n cap).ownBlock)∧okp k) u p:=
  Kd.aW (Kd.tH hp (fun k hk hlt=>h3.block k hlt (fun e=>(hokp k hk).2 (by injection e)))) (fun k hk=>⟨⟨(hokp k hk).1,fun e=>(hokp k hk).2 (by rw [← hgo] at e;injection e)⟩,hk⟩)
 refine ⟨fun k hk=>hok0 k (h0 k hk),okp,rows.set 0 [u],by rw [List.length_set,List.length_set,hl],Kd.rC h2,fun t c ht hc=>?_,fun j t c ht hc=>?_⟩
 ·rw [show (0:Int).toNat=0 from rfl,List.getElem?_set_self hn] at ht
  rw [List.getElem?_set_self (by omega)] at hc
  injection ht with ht
  injection hc with hc
  subst ht
  subst hc
  exact ⟨u,rfl,hpn⟩
 ·rw [show (0:Int).toNat=0 from rfl,List.getElem?_set_ne (by omega)] at ht
  rw [List.getElem?_set_ne (by omega)] at hc
  have hne:∀ k,some k≠(Value.slice (some ⟨g,0,none⟩) n cap).ownBlock→k≠g:=fun k hk e=>hk (by rw [e];exact hgo)
  exact Kd.mZ (Kd.rE (hf j t c ht hc) (fun k hk hlt=>h3.block k hlt (fun e=>hne k hk.1.2 (by injection e)))) (fun k hk=>⟨⟨hok0 k hk.1.1,hk.1.2⟩,hap k hk.1.1 (hne k hk.1.2)⟩)
end
section
variable {P:Program} {ops:Array Oper} {o:Oper} {a:Act} {Q:Exit→Act→World→Prop} {Kc:Act→World→Prop}
theorem IX {w0 W:World} (base:Nat) (hw:Region.wanted o (yielded ops a.tmps)=true) (s x:Operand) (t:TypeId) (z:Value) (bytes:Nat)
  (ho:o.op= .call { callee:= .builtin .append,args:=#[s,x],argTypes:=#[t,t] })
  (ht:P.underlying t=some (.slice 33)) (hinfo:(P.info? 33).map (fun i=>(i.zero,i.size,i.bytes))=some (some z,1,bytes)) (hz:z.cells.size=1) (hb0:0 < bytes)
  (v u:Value) (xs:List (List S58)) (p:List S58) (ok ok0 okp:Nat→Prop) (hs:a.eval s=v) (hx:a.eval x= .slice (some ⟨W.heap.size,0,none⟩) 1 1) (hp:Kd.N k58 58 W base okp u p) (hokp:∀ k,okp k→ok k∧some k≠v.ownBlock) (hok0:∀ k,ok0 k→ok k) (hap:∀ k,ok0 k→¬ okp k) (hfresh:∀ k,W.heap.size≤k→ok k)
  (HO:TF W base ok0 v xs) (HB:Below base w0 W) (hbase:base≤W.heap.size) (hl:(xs.length + 1) * bytes≤140737488355328)
  (h:∀ v1 w1,TF w1 base ok v1 (xs ++ [p])→Below base w0 w1→W.grownBy w1 v.ownBlock→(v1.ownBlock=v.ownBlock∨∃ b,v1.ownBlock=some b∧W.heap.size≤b)→Kc (a.put o.dst v1) w1):
  if Region.wanted o (yielded ops a.tmps)=true then Oper.wp P o a (W.alloc (.cells [u].toArray 33)) Kc Q else Kc (a.put o.dst undef) (W.alloc (.cells [u].toArray 33)):=by
 obtain ⟨h0,P,rows,hlr,hR,he,hf⟩:=HO
 have hpo:u.oneCell'=true:=by
  obtain ⟨A,cc,rfl⟩:=Kd.eF hp
  rfl
 refine Kd.lM (Kd.raw 1) base hw s x t 33 z bytes ho ht hinfo hz (by decide) hb0 v rows [u] [u] (fun _=>True) (fun _=>False) hs hx ⟨rfl,rfl,fun y hy=>by rw [List.mem_singleton] at hy;rw [hy];exact hpo⟩ (fun _ hk=>hk.elim) (fun _ _=>trivial) (Kd.rU hR) HB hbase (by rw [hlr];exact hl) ?_
 intro v1 w1 hr hb hg hat
 exact h v1 w1 (PV h0 hlr he hf hp hokp hok0 hap hfresh hr hg hat) hb hg hat
end
theorem bS.callsT (k:Nat) (g:Nat) (je:List Int) (jM:Int) (r1:List Int) (r2:List (List (S58))) (r3:Int) (w0 w:World) (hI:aI w0 w g je jM) (hB:Below w0.heap.size w0 w) (h:bS.f k je jM=some (r1,r2,r3)):
  Calls Tryz.prog 36 #[.pointer (some ⟨g,0,none⟩)] w fun e w'=>∃ v0_ v1_:Value,e= .returned (.agg #[v0_,v1_])∧Kd.R (Kd.int .i64) 3 w' w.heap.size (fun k_=>(w.heap.size≤k_)) v0_ r1∧TF w' w.heap.size (fun k_=>(w.heap.size≤k_)∧some k_≠(v0_:Value).ownBlock) v1_ r2∧aI w0 w' g je r3∧Below w0.heap.size w0 w'∧aC w w' g none:=by
 have hu26:=Tryz.underlying26
 have HI0:=am hI
 have HK:=am (aC.refl w g none)
 have HL:=am hB.size
 clear hI
 have HW0:=am hB.size
 have HB:=am hB
 clear hB
 unfold bS.f at h
 have H:=h
 clear h
 obtain ⟨⟨ja,jG⟩,A2,H⟩:=bsa H
 (try dsimp only at H)
 obtain ⟨jH,hy_⟩:∃ y_:List (List (S58)),y_=(([]:List (List (S58)))):=⟨_,rfl⟩
 replace H:((aG.f k je jG 3).bind fun q2=>(bS.l0 k (wrap64 (1 + q2.1)) 0 je q2.2 ja jH))=some (r1,r2,r3):=rx_
 have jN:=am hy_
 clear hy_
 obtain ⟨⟨jI,qi⟩,A3,H⟩:=bsa H
 (try dsimp only at H)
 have H':=am H
 clear H
 go_enter Tryz.func36,Tryz.ntmps36
 go_wp2_with (first|((with_reducible refine cK (N:=2) rfl ?_);refine eO rfl (N:=2) rfl (cs:=#[.slice none 0 0, .slice none 0 0]) (t:=26) rn_ ?_;intro j6 hg w4 hbox hb;replace HB:=am (aA iX hb);have j8:=am (hbox);have GW440:=am ((by rw [hg];exact (aM (w:=w) (g:=g) (row:=none) fF):w.heap.size≤j6));have GE440:=am ((Nat.le_trans HW0.out (by rw [hg];exact (aM (w:=w) (g:=g) (row:=none) fF):w.heap.size≤j6):w0.heap.size≤j6));replace HK:=am (aC.trans fF (aC.of_below hb g none) (.inl rfl));have NB0_440:=am ((by rw [hg];exact Nat.ne_of_lt (aI.lt (show aI w0 _ g je jM from fQ)):g≠j6));have jg:=am ((by rw [hg];exact Nat.ne_of_gt (aI.lt (show aI w0 _ g je jM from fQ)):j6≠g));replace HI0:=am (aI.below fQ hb);clear hb hbox hg)|((with_reducible refine aD (f:=59) rfl ?_);refine gl_ 7 Tryz.func59 #[.pointer (some ⟨g,0,none⟩)] ?_;(with_reducible refine (dR.calls k g je jM ja jG w0 _ ?side1 ?side2 A2.out).mono ?_);(case side1=>exact NC);(case side2=>exact TL);rintro e w5 ⟨qb,rfl,ho0,hi,hb,hk⟩;refine ⟨_,rfl,?_⟩;replace j8:=am (aC.blk hk (g':=j6) (o:= .cells #[.slice none 0 0, .slice none 0 0] 26 (0,0)) (aG_ j8.out) jg.out (by simp));have jl:=am (Kd.fG (Kd.vO (M:=fun k_=>(w.heap.size≤k_)) ho0 (aM (w:=w) (g:=g) (row:=none) CP) (fun k_ h_=>h_)) (aM (w:=w) (g:=g) (row:=none) CP));replace HK:=am (aC.trans CP hk (.inl rfl));replace HB:=am (hb);replace HI0:=am (hi);(try clear hb);(try clear hk);(try clear hi);(try clear ho0))|((with_reducible refine cK (N:=8) rfl ?_);refine Kd.wO (Kd.slice 58 k58) _ 33 rfl (N':=8) rfl (xs:=([]:List (List (S58)))) (inner:=[]) (ok:=(fun k_=>(w.heap.size≤k_)∧some k_≠(qb:Value).ownBlock∧k_≠j6∧k_≠g)) (okp:=(fun k_=>(w.heap.size≤k_)∧some k_≠(qb:Value).ownBlock∧k_≠j6∧k_≠g)) rn_ ?hp (fun _ hk=>hk) ((show ∀ k_,w5.heap.size≤k_→(fun k_=>(w.heap.size≤k_)∧some k_≠(qb:Value).ownBlock∧k_≠j6∧k_≠g) k_ from fun k_ hk=>⟨(Nat.le_trans (aM (w:=w) (g:=g) (row:=none) CP) hk),Kd.fresh' (Kd.iN (aR_ jl.out)) k_ hk,lJ j8.out k_ hk,aI.fresh NC k_ hk⟩) _ (Nat.le_refl _)) (Below.refl _ _) (Nat.le_refl _) (by simp) ?_;(case hp=>exact (dF.none _ _));intro zq w6 ho7 hb hg_ hnew_;clear hg_ hnew_;(first|rw [← jN.out] at ho7|(simp only [Int.reduceToNat] at ho7;rw [← jN.out] at ho7));replace jl:=am (Kd.gG (aR_ jl.out) hb);have jm:=am (Kd.eU ho7 (aM (w:=w) (g:=g) (row:=none) CP));replace j8:=bbP j8 hb;replace HK:=am (aC.trans CP (aC.of_below hb g none) (.inl rfl));replace HB:=am (aA TL hb);replace HI0:=am (aI.below NC hb);clear hb ho7;obtain ⟨qC,qD,zr⟩:=Kd.eF jm.out;subst zr;obtain ⟨jb,jc,zs⟩:=Kd.eY jl.out;subst zs)|((with_reducible refine cK (N:=3) rfl ?_);refine eO rfl (N:=3) rfl (cs:=#[.slice none 0 0, .slice none 0 0]) (t:=26) rn_ ?_;intro j7 hg zD hbox hb;replace jl:=am (Kd.gG (aR_ jl.out) hb);replace jm:=am (Kd.kH (Kd.CK (aN_ jm.out) j7 (Nat.le_of_eq hg.symm)) hb);replace HB:=am (aA TL hb);have j9:=am (hbox);have GW448:=am ((by rw [hg];exact (aM (w:=w) (g:=g) (row:=none) CP):w.heap.size≤j7));have GE448:=am ((Nat.le_trans HW0.out (by rw [hg];exact (aM (w:=w) (g:=g) (row:=none) CP):w.heap.size≤j7):w0.heap.size≤j7));replace HK:=am (aC.trans CP (aC.of_below hb g none) (.inl rfl));have jd:=am ((by rw [hg];exact Nat.ne_of_lt (CS j8.out):j6≠j7));have jj:=am ((by rw [hg];exact Nat.ne_of_gt (CS j8.out):j7≠j6));replace j8:=bbP j8 hb;have NB0_448:=am ((by rw [hg];exact Nat.ne_of_lt (aI.lt (show aI w0 _ g je jG from NC)):g≠j7));have jh:=am ((by rw [hg];exact Nat.ne_of_gt (aI.lt (show aI w0 _ g je jG from NC)):j7≠g));replace HI0:=am (aI.below NC hb);clear hb hbox hg;have z4:=jj.out;have z5:=jd.out;have z6:=jh.out;have z7:=NB0_448.out;obtain ⟨jP,jQ,jR,jS⟩:=iV j9.out)|((with_reducible refine aD (f:=37) rfl ?_);refine gl_ 11 Tryz.func37 #[.pointer (some ⟨g,0,none⟩), .int .i64 3] ?_;(with_reducible refine (aG.calls k g je jG 3 jI qi w0 _ ?side1 ?side2 A3.out).mono ?_);(case side1=>exact nO);(case side2=>exact xJ);rintro e zE ⟨rfl,hi,hb,hk⟩;refine ⟨_,rfl,?_⟩;replace j8:=am (aC.blk hk (g':=j6) (o:= .cells #[.slice none 0 0, .slice none 0 0] 26 (0,0)) (mV (mV j8.out jd.out _) jd.out _) jg.out (by simp));replace jl:=am (Kd.bV (Kd.pG (aI.apart (show aI w0 _ g je jG from nO) (gH ((Kd.bV (Kd.kI (p:=⟨j7,1,none⟩) (Kd.kI (p:=⟨j7,0,none⟩) (Kd.lW jl.out j9.out (by decide)) (fun _ hk=>hk.2) (.slice jb ja.length jc)) (fun _ hk=>hk.2) (.slice qC jH.length qD)) (fun _ h_=>h_.1)))) (by decide)) hk (fun _ h=>h.2)) (fun _ h=>h.1));replace jm:=am (Kd.aW (Kd.pF (Kd.aW (ok:=fun k_=>((((w.heap.size≤k_))∧(some k_≠(.slice jb ja.length jc:Value).ownBlock∧(k_≠j6∧k_≠g)))∧k_≠j7)) (lN ((Kd.aW (Kd.dB (p:=⟨j7,1,none⟩) (Kd.dB (p:=⟨j7,0,none⟩) (Kd.aW jm.out (fun k_ hk=>(⟨hk,hk.2⟩:_∧k_≠j7))) (fun _ hk=>hk.2) (.slice jb ja.length jc)) (fun _ hk=>hk.2) (.slice qC jH.length qD)) (fun _ h_=>h_.1)))) (fun k_ hk_=>(⟨hk_,hk_.1.2.2.2⟩:_∧k_≠g))) hk (fun _ h=>h.2)) (fun _ h=>h.1));replace j9:=am (aC.blk hk (g':=j7) (o:= .cells #[.slice jb ja.length jc, .slice qC jH.length qD] 26 (0,0)) (aY (aY j9.out 0 _ rfl) 1 _ rfl) jh.out (by simp));replace HK:=am (aC.trans mK hk (.inl rfl));replace HB:=am (hb);replace HI0:=am (hi);(try clear hb);(try clear hk);(try clear hi)))
 go_loopg [5] k (fun kq v5 w'=>∃ (ju:Int) (jf:Int) (j5:List (List (S58))) (u449001:Value),v5= .int .i64 ju∧Aside0 (bS.l0 kq (wrap64 (1 + jI)) ju je jf ja j5=some (r1,r2,r3))∧Aside0 (kq≤k)∧Aside0 (Kd.R (Kd.int .i64) 3 w' w.heap.size (fun k_=>(w.heap.size≤k_)) (.slice jb ja.length jc) ja)∧Aside0 (Kd.N (Kd.slice 58 k58) 33 w' w.heap.size (fun k_=>(w.heap.size≤k_)∧some k_≠((.slice jb ja.length jc):Value).ownBlock∧k_≠j6∧k_≠j7∧k_≠g) u449001 j5)∧Aside0 (TF w' w.heap.size (fun k_=>(w.heap.size≤k_)∧some k_≠((.slice jb ja.length jc):Value).ownBlock∧k_≠j6∧k_≠j7∧k_≠g) u449001 j5)∧Aside0 (w'.heap[j6]?=some (.cells #[(.slice none 0 0),(.slice none 0 0)] 26 (0,0)))∧Aside0 (w'.heap[j7]?=some (.cells #[(.slice jb ja.length jc),u449001] 26 (0,0)))∧Aside0 (aI w0 w' g je jf)∧Aside0 (aC w w' g none)∧Aside0 (Below w0.heap.size w0 w'))
 case atStart=>exact ⟨(0),(qi),(jH),(.slice qC jH.length qD),sd_,H',⟨Nat.le_refl _⟩,⟨gH (Kd.bV jl.out (fun _ hk=>hk.1))⟩,⟨lN (Kd.aW jm.out (fun _ hk=>⟨hk.1.1,⟨hk.1.2.1,⟨hk.1.2.2.1,⟨hk.2,hk.1.2.2.2⟩⟩⟩⟩))⟩,⟨aGp jN.out (lN (Kd.aW jm.out (fun _ hk=>⟨hk.1.1,⟨hk.1.2.1,⟨hk.1.2.2.1,⟨hk.2,hk.1.2.2.2⟩⟩⟩⟩)))⟩,⟨by (with_reducible repeat (first|refine dQ ?_ _|refine dA ?_|refine dP ?_ _));exact j8.out⟩,⟨by (with_reducible repeat (first|refine dQ ?_ _|refine dA ?_|refine dP ?_ _));exact j9.out⟩,⟨nO⟩,⟨mK⟩,⟨xJ⟩⟩
 case round=>
  clear H'
  try clear jP
  try clear jQ
  try clear jR
  try clear jS
  obtain ⟨ju,jf,j5,u449001,rfl,HA,z8,j4,j3,HT,j8,j9,HI0,HK,HB⟩:=hrel
  cases gk with
  |zero=>exact absurd HA.out (by simp [bS.l0])
  |succ k1=>
   have H:=HA.out
   clear HA
   simp only [bS.l0] at H
   by_cases qh:ju < (wrap64 (1 + jI))
   ·rw [if_pos qh] at H
    have qj:decide (ju < (wrap64 (1 + jI)))=true:=decide_eq_true qh
    clear qh
    obtain ⟨⟨jT,qc⟩,zt,H⟩:=bsa H
    (try dsimp only at H)
    by_cases qE:j5.length < 5864062014805
    ·rw [if_pos qE] at H
     have qk:=am qE
     clear qE
     obtain ⟨jJ,hy_⟩:∃ y_:List (List (S58)),y_=(j5 ++ [jT]):=⟨_,rfl⟩
     replace H:(bS.l0 k1 (wrap64 (1 + jI)) (wrap64 (ju + 1)) je qc ja jJ)=some (r1,r2,r3):=rx_
     have ql:=am hy_
     clear hy_
     have H':=am H
     clear H
     try go_wp2
     replace j4:=am (Kd.oC j4.out)
     replace j3:=am (Kd.rF j3.out)
     replace j8:=am (dA j8.out)
     replace j9:=am (dA j9.out)
     replace HI0:=am (aI.drew HI0.out)
     replace HK:=am (gT HK.out)
     replace HB:=am (bJ HB.out)
     refine kZ (n:=11) (S:=fun w'=>w'.cell? ⟨j7,0,none⟩=some (.slice jb ja.length jc)∧w'.cell? ⟨j7,1,none⟩=some (u449001)) (ds:=[10]) (bz 11 0) (by kernel_rfl) rfl rfl (vW j9.out) (fun hHeld=>?_);refine iA bS.PN bS.CQ (fun HT_ HW_=>?_)
     have nT_:=am (rJ HT.out)
     clear HT
     have HT:=nT_
     clear nT_
     generalize wr.drew=qF at j4 j3 HT j8 j9 HI0 HK HB hHeld ⊢
     refine pr_ 0 18 (bz 11 1) HT_ ?_
     refine pr_ 2 20 (bz 11 5) HT_ ?_
     refine pr_ 3 21 (bz 11 13) HT_ ?_
     refine aEe 1 19 (bz 11 15) HT_ HW_ hHeld ?_
     refine aEe 4 22 (bz 11 31) HT_ HW_ hHeld ?_
     refine pr_ 5 23 (bz 11 63) HT_ ?_
     refine gY (i:=6) (N:=some 24) (bz 11 127) rfl rfl (eG HT_.out (by kernel_rfl)) (by decide) (fun K hK=>?_)
     refine iF Tryz.func60 (by kernel_rfl) rfl #[.pointer (some ⟨g,0,none⟩), .int .i64 (ja.length:Int)] (by rfl) rfl rfl mD ?_
     with_reducible refine (dY.calls k1 g je jf (ja.length:Int) jT qc w0 _ ?side1 ?side2 zt.out).mono ?_
     (case side1=>exact nO)
     (case side2=>exact xJ)
     rintro e zF ⟨zu,rfl,ho0,hi,hb,hk⟩
     refine ⟨_,rfl,?_⟩
     have jn:=am (Kd.bV (Kd.pG (aI.apart (show aI w0 _ g je jf from nO) (aR_ j4.out) (by decide)) hk (fun _ h=>h.2)) (fun _ h=>h.1))
     have jo:=am (Kd.aW (Kd.uH (Kd.wE (Kd.aW (ok:=fun k_=>(((w.heap.size≤k_))∧(some k_≠(.slice jb ja.length jc:Value).ownBlock∧(k_≠j6∧(k_≠j7∧k_≠g))))) (aN_ j3.out) (fun k_ hk_=>(⟨hk_,hk_.2.2.2.2⟩:_∧k_≠g))) hk) (by first|exact Kd.kC ho0|exact Kd.kC (Kd.R_N ho0))) (fun _ h_=>h_.1))
     have nT_:=am (show TF _ w.heap.size (fun k_=>((w.heap.size≤k_)∧some k_≠((.slice jb ja.length jc):Value).ownBlock∧k_≠j6∧k_≠j7∧k_≠g)∧k_ < qF.heap.size) u449001 j5 from (aAp (mH (ok:=fun k_=>(((w.heap.size≤k_))∧(some k_≠(.slice jb ja.length jc:Value).ownBlock∧(k_≠j6∧(k_≠j7∧k_≠g))))) (by (with_reducible repeat (first|apply rH|apply rM|apply rJ));exact HT.out) (fun k_ hk_=>(⟨hk_,hk_.2.2.2.2⟩:_∧k_≠g))) hk))
     clear HT
     have HT:=nT_
     clear nT_
     have jp:=am (aC.blk hk (g':=j6) (o:= .cells #[.slice none 0 0, .slice none 0 0] 26 (0,0)) (aG_ j8.out) jg.out (by simp))
     have jq:=am (aC.blk hk (g':=j7) (o:= .cells #[.slice jb ja.length jc,u449001] 26 (0,0)) (aG_ j9.out) jh.out (by simp))
     have jr:=am (Kd.eU (Kd.aW (ok':=fun k_=>(w.heap.size≤k_)∧some k_≠(.slice jb ja.length jc:Value).ownBlock∧some k_≠(u449001:Value).ownBlock∧k_≠j6∧k_≠j7∧k_≠g) ho0 (fun k_ hk_=>⟨(Nat.le_trans (aM (w:=w) (g:=g) (row:=none) mK) hk_),(Kd.fresh' (Kd.iN (aR_ j4.out)) k_ hk_),(Kd.fresh' (Kd.uG (aN_ j3.out)) k_ hk_),(lJ j8.out k_ hk_),(lJ j9.out k_ hk_),(aI.fresh nO k_ hk_)⟩)) (aM (w:=w) (g:=g) (row:=none) mK))
     have HE0:=am (Kd.eU (Kd.aW (ok':=fun k_=>((w.heap.size≤k_)∧some k_≠(.slice jb ja.length jc:Value).ownBlock∧some k_≠(u449001:Value).ownBlock∧k_≠j6∧k_≠j7∧k_≠g)∧qF.heap.size≤k_) ho0 (fun k_ hk_=>⟨⟨(Nat.le_trans (aM (w:=w) (g:=g) (row:=none) mK) hk_),(Kd.fresh' (Kd.iN (aR_ j4.out)) k_ hk_),(Kd.fresh' (Kd.uG (aN_ j3.out)) k_ hk_),(lJ j8.out k_ hk_),(lJ j9.out k_ hk_),(aI.fresh nO k_ hk_)⟩,hk_⟩)) (aM (w:=w) (g:=g) (row:=none) mK))
     have js:=am (aC.trans mK hk (.inl rfl))
     have jt:=am (hb)
     have q3:=am (hi)
     clear j4
     clear j3
     clear j8
     clear j9
     clear HK
     clear HB
     clear HI0
     have j4:=jn
     have j3:=jo
     have j8:=jp
     have j9:=jq
     have q4:=jr
     have HK:=js
     have HB:=jt
     have HI0:=q3
     clear jn jo jp jq jr js jt q3
     (try clear hb)
     (try clear hb2)
     (try clear hk)
     (try clear hi)
     (try clear ho0)
     obtain ⟨qY,qZ,qm⟩:=Kd.eF q4.out
     (first|subst qm|(injection qm with f1_ f2_ f3_;have f4_:=f1_.symm;have f5_:=f3_.symm;clear f1_ f2_ f3_;subst f4_;subst f5_))
     refine hK.out _ _ (vW j9.out) (fun hHeld=>?_)
     clear hK K
     refine eZ (a':=?_) ?_ ?_
     rotate_left
     ·exact ap_ (N:=24)
     refine gY (i:=7) (N:=some 25) (bz 11 255) rfl rfl (eG HT_.out (by kernel_rfl)) (by decide) (fun K hK=>?_)
     refine sK (w1:=?_) (v:=?_) (by rfl) rfl ?_ ?_
     rotate_left 2
     ·go_simp
      constructor
      ·rfl
      ·rfl
     refine hK.out _ _ (vW (dP j9.out _)) (fun hHeld=>?_)
     clear hK K
     refine eZ (a':=?_) ?_ ?_
     rotate_left
     ·exact ap_ (N:=25)
     refine gY (i:=8) (N:=some 26) (bz 11 511) rfl rfl (eG HT_.out (by kernel_rfl)) (by decide) (fun K hK=>?_)
     refine IX w.heap.size (by rfl) (.tmp 19) (.tmp 25) 24 (.slice none 0 0) 24 rfl Tryz.underlying24 WH rfl (by omega) u449001 (.slice qY jT.length qZ) j5 jT (fun k_=>(w.heap.size≤k_)∧some k_≠((.slice jb ja.length jc):Value).ownBlock∧k_≠j6∧k_≠j7∧k_≠g) (fun k_=>((w.heap.size≤k_)∧some k_≠((.slice jb ja.length jc):Value).ownBlock∧k_≠j6∧k_≠j7∧k_≠g)∧k_ < qF.heap.size) (fun k_=>((w.heap.size≤k_)∧some k_≠(.slice jb ja.length jc:Value).ownBlock∧some k_≠(u449001:Value).ownBlock∧k_≠j6∧k_≠j7∧k_≠g)∧qF.heap.size≤k_) rfl rfl HE0.out ?aP (fun _ hk=>hk.1) (fun _ h0 h1=>absurd h1.2 (Nat.not_le.mpr h0.2)) ?aF ?aO (Below.refl _ _) ?aS ?aL ?_
     (case aP=>exact (fun k_ hk=>⟨⟨hk.1.1,hk.1.2.1,hk.1.2.2.2.1,hk.1.2.2.2.2.1,hk.1.2.2.2.2.2⟩,hk.1.2.2.1⟩))
     (case aF=>exact (fun k_ hk=>⟨(Nat.le_trans (aM (w:=w) (g:=g) (row:=none) mK) hk),Kd.fresh' (Kd.iN (aR_ j4.out)) k_ hk,lJ j8.out k_ hk,lJ j9.out k_ hk,aI.fresh nO k_ hk⟩))
     (case aO=>exact HT.out)
     (case aS=>exact (aM (w:=w) (g:=g) (row:=none) mK))
     (case aL=>have:=qk.out;omega)
     intro zv zw hot hb hg hat
     have ho:=EF hot
     rw [← ql.out] at ho hot
     clear HT HE0
     have HT:=am hot
     clear hot
     replace j4:=am (Kd.IC (aR_ j4.out) (Kd.IB (aN_ j3.out)) (by decide) hg)
     replace j8:=am (dZ (g:=j6) (o:= .cells #[.slice none 0 0, .slice none 0 0] 26 (0,0)) (aG_ j8.out) hg (Kd.TK j3.out j8.out (by decide)))
     replace j9:=am (dZ (g:=j7) (o:= .cells #[.slice jb ja.length jc,u449001] 26 (0,0)) (aG_ j9.out) hg (Kd.TK j3.out j9.out (by decide)))
     replace HB:=am (nS xJ HL.out hb)
     replace HI0:=am (aI.grown nO hg (aI.DJ HI0.out j3.out (by decide)))
     replace HK:=am (aC.trans mK (aC.fV hg g) (Kd.HZ j3.out))
     have q5:=am (ho)
     clear j3 q4
     clear ho hb hg hat
     obtain ⟨jU,jV,qn⟩:=Kd.eF q5.out
     (first|subst qn|(injection qn with f1_ f2_ f3_;have f4_:=f1_.symm;have f5_:=f3_.symm;clear f1_ f2_ f3_;subst f4_;subst f5_))
     refine hK.out _ _ (vW j9.out) (fun hHeld=>?_)
     clear hK K
     refine eZ (a':=?_) ?_ ?_
     rotate_left
     ·exact ap_ (N:=26)
     refine pr_ 9 27 (bz 11 1023) HT_ ?_
     refine NQ (i:=10) (N:=none) (bz 11 2047) rfl rfl (eG HT_.out (by kernel_rfl)) (by decide) (fun K hK=>?_)
     have zx:zw.cell? ⟨j7,1,none⟩=some (u449001):=(aN j9.out 1).trans rfl
     have hfs23:=bT j9.out 1
     have hns23_0:=jd.out
     have hms23_0:=jj.out
     refine xZ (w1:=?_) (by rfl) rfl ?_ ?_
     rotate_left
     ·go_simp
      rfl
     refine hK.out _ _ ?_
     clear hK K
     refine nA (kS HT_.out (by kernel_rfl)) ?_
     try go_wp2
     go_roundg k1
     case measure=>have:=z8.out;omega
     case rel=>exact ⟨(wrap64 (ju + 1)),(qc),(jJ),(.slice jU jJ.length jV),sd_,H',⟨by have:=z8.out;omega⟩,⟨gH (Kd.bV (Kd.kI (p:=⟨j7,1,none⟩) (Kd.lW j4.out j9.out (by decide)) (fun _ hk=>hk.2) (.slice jU jJ.length jV)) (fun _ hk=>hk.1))⟩,⟨lN (Kd.aW (Kd.dB (p:=⟨j7,1,none⟩) (Kd.aW q5.out (fun k_ hk=>(⟨hk,hk.2.2.2.1⟩:_∧k_≠j7))) (fun _ hk=>hk.2) (.slice jU jJ.length jV)) (fun _ hk=>⟨hk.1.1,⟨hk.1.2.1,⟨hk.1.2.2.1,⟨hk.1.2.2.2.1,hk.1.2.2.2.2⟩⟩⟩⟩))⟩,⟨by (with_reducible repeat (first|apply rH|apply rM|apply rJ));exact mH (BI (p:=⟨j7,1,none⟩) (mH HT.out (fun k_ hk=>(⟨hk,hk.2.2.2.1⟩:_∧k_≠j7))) (fun _ hk=>hk.2) (.slice jU jJ.length jV)) (fun _ hk=>⟨hk.1.1,⟨hk.1.2.1,⟨hk.1.2.2.1,⟨hk.1.2.2.2.1,hk.1.2.2.2.2⟩⟩⟩⟩)⟩,⟨(mV j8.out jd.out _)⟩,⟨(aY j9.out 1 _ rfl)⟩,⟨nO⟩,⟨mK⟩,⟨xJ⟩⟩
    rw [if_neg qE] at H
    exact absurd H (by simp)
   rw [if_neg qh] at H
   have qj:decide (ju < (wrap64 (1 + jI)))=false:=decide_eq_false qh
   clear qh
   obtain ⟨⟨jw,jW⟩,z9,H⟩:=bsa H
   (try dsimp only at H)
   by_cases qd:jw=0
   ·rw [if_pos qd] at H
    have qo:(jw == 0)=true:=beq_iff_eq.mpr qd
    have qp:(jw != 0)=false:=bne_eq_false_iff_eq.mpr qd
    clear qd
    obtain ⟨⟨jx,jy,jz,jA,jB,jC,jD,jE,jX⟩,zy,H⟩:=bsa H
    (try dsimp only at H)
    obtain ⟨jk,hy_⟩:∃ y_:List (S58),y_=(([(⟨jx,jy,jz,(⟨jA,jB,jC⟩:S56),jD,jE⟩:S58)]:List (S58))):=⟨_,rfl⟩
    replace H:(if 0 < (j5.length:Int) then (some (ja,(j5.set (0:Int).toNat jk),jX)) else (none))=some (r1,r2,r3):=rx_
    have q6:=am hy_
    clear hy_
    by_cases qG:0 < (j5.length:Int)
    ·rw [if_pos qG] at H
     have za:decide (0 < (j5.length:Int))=true:=decide_eq_true qG
     have zb:decide (0 < j5.length)=true:=decide_eq_true (by omega)
     clear qG
     obtain ⟨qe,hy_⟩:∃ y_:List (List (S58)),y_=(j5.set (0:Int).toNat jk):=⟨_,rfl⟩
     replace H:(some (ja,qe,jX))=some (r1,r2,r3):=rx_
     have q7:=am hy_
     clear hy_
     simp only [Option.some.injEq,Prod.mk.injEq] at H
     obtain ⟨rfl,rfl,rfl⟩:=H
     try go_wp2_with (first|((with_reducible refine aD (f:=37) rfl ?_);refine gl_ 29 Tryz.func37 #[.pointer (some ⟨g,0,none⟩), .int .i64 16] ?_;(with_reducible refine (aG.calls k1 g je jf 16 jw jW w0 _ ?side1 ?side2 z9.out).mono ?_);(case side1=>exact nO);(case side2=>exact xJ);rintro e zz ⟨rfl,hi,hb,hk⟩;refine ⟨_,rfl,?_⟩;have jn:=am (Kd.bV (Kd.pG (aI.apart (show aI w0 _ g je jf from nO) (aR_ j4.out) (by decide)) hk (fun _ h=>h.2)) (fun _ h=>h.1));have jo:=am (Kd.aW (Kd.pF (Kd.aW (ok:=fun k_=>(((w.heap.size≤k_))∧(some k_≠(.slice jb ja.length jc:Value).ownBlock∧(k_≠j6∧(k_≠j7∧k_≠g))))) (aN_ j3.out) (fun k_ hk_=>(⟨hk_,hk_.2.2.2.2⟩:_∧k_≠g))) hk (fun _ h=>h.2)) (fun _ h=>h.1));have nT_:=am (mH (IE (mH (ok:=fun k_=>(((w.heap.size≤k_))∧(some k_≠(.slice jb ja.length jc:Value).ownBlock∧(k_≠j6∧(k_≠j7∧k_≠g))))) (by (with_reducible repeat (first|apply rH|apply rM|apply rJ));exact HT.out) (fun k_ hk_=>(⟨hk_,hk_.2.2.2.2⟩:_∧k_≠g))) hk (fun _ h=>h.2)) (fun _ h=>h.1));clear HT;have HT:=nT_;clear nT_;have jp:=am (aC.blk hk (g':=j6) (o:= .cells #[.slice none 0 0, .slice none 0 0] 26 (0,0)) (aG_ j8.out) jg.out (by simp));have jq:=am (aC.blk hk (g':=j7) (o:= .cells #[.slice jb ja.length jc,u449001] 26 (0,0)) (aG_ j9.out) jh.out (by simp));have jr:=am (aC.trans mK hk (.inl rfl));have js:=am (hb);have jt:=am (hi);clear j4 j3 j8 j9 HK HB HI0;have j4:=jn;have j3:=jo;have j8:=jp;have j9:=jq;have HK:=jr;have HB:=js;have HI0:=jt;clear jn jo jp jq jr js jt;(try clear hb);(try clear hk);(try clear hi)))
     replace j4:=am (Kd.oC j4.out)
     replace j3:=am (Kd.rF j3.out)
     replace j8:=am (dA j8.out)
     replace j9:=am (dA j9.out)
     replace HI0:=am (aI.drew HI0.out)
     replace HK:=am (gT HK.out)
     replace HB:=am (bJ HB.out)
     refine kZ (n:=7) (S:=fun w'=>w'.cell? ⟨j7,0,none⟩=some (.slice jb ja.length jc)∧w'.cell? ⟨j7,1,none⟩=some (u449001)) (ds:=[6]) (bz 7 0) (by kernel_rfl) rfl rfl (vW j9.out) (fun hHeld=>?_)
     have nT_:=am (rJ HT.out)
     clear HT
     have HT:=nT_
     clear nT_
     generalize zz.drew=jK at j4 j3 HT j8 j9 HI0 HK HB hHeld ⊢
     refine tO (i:=0) (N:=some 31) (v:=?_) (a':=?_) (bz 7 1) rfl rfl (by kernel_rfl) (fun _ _ _ h=>h) (Or.inl ⟨by rfl,?_⟩) ?_ ?_
     rotate_left
     ·intro w'
      go_simp
      with_reducible rfl
     rotate_left
     ·simp only [Act.put,List.setIfInBounds_toArray,List.set_cons_zero,List.set_cons_succ,fI,fO]
      rfl
     refine tO (i:=2) (N:=some 33) (v:=?_) (a':=?_) (bz 7 5) rfl rfl (by kernel_rfl) (fun _ _ _ h=>h) (Or.inl ⟨by rfl,?_⟩) ?_ ?_
     rotate_left
     ·intro w'
      go_simp
      with_reducible rfl
     rotate_left
     ·simp only [Act.put,List.setIfInBounds_toArray,List.set_cons_zero,List.set_cons_succ,fI,fO]
      rfl
     refine uV (i:=1) (N:=some 32) (v:=?_) (a':=?_) (bz 7 7) rfl rfl (by kernel_rfl) (fun _ _ _ h=>h) (Or.inl ⟨by rfl,?_⟩) hHeld ?_ ?_
     rotate_left
     ·rintro w' ⟨s0,s1⟩
      go_simp
      with_reducible rfl
     rotate_left
     ·simp only [Act.put,List.setIfInBounds_toArray,List.set_cons_zero,List.set_cons_succ,fI,fO]
      rfl
     refine gY (i:=3) (N:=some 34) (bz 7 15) rfl rfl (by kernel_rfl) (by decide) (fun K hK=>?_)
     refine iF Tryz.func61 (by kernel_rfl) rfl #[.pointer (some ⟨g,0,none⟩)] (by rfl) rfl rfl mD ?_
     with_reducible refine (gU.calls k1 g je jW jx jy jz jA jB jC jD jE jX w0 _ ?side1 ?side2 zy.out).mono ?_
     (case side1=>exact nO)
     (case side2=>exact xJ)
     rintro e zA ⟨jY,jZ,q0,rfl,ho0,ho1,ho2,hi,hb,hk⟩
     refine ⟨_,rfl,?_⟩
     have jn:=am (Kd.bV (Kd.pG (aI.apart (show aI w0 _ g je jW from nO) (aR_ j4.out) (by decide)) hk (fun _ h=>h.2)) (fun _ h=>h.1))
     have jo:=am (Kd.aW (Kd.uH (Kd.uH (Kd.uH (Kd.wE (Kd.aW (ok:=fun k_=>(((w.heap.size≤k_))∧(some k_≠(.slice jb ja.length jc:Value).ownBlock∧(k_≠j6∧(k_≠j7∧k_≠g))))) (aN_ j3.out) (fun k_ hk_=>(⟨hk_,hk_.2.2.2.2⟩:_∧k_≠g))) hk) (by first|exact Kd.kC ho0|exact Kd.kC (Kd.R_N ho0))) (Kd.kC ho1)) (Kd.kC ho2)) (fun _ h_=>h_.1))
     have nT_:=am (show TF _ w.heap.size (fun k_=>((w.heap.size≤k_)∧some k_≠((.slice jb ja.length jc):Value).ownBlock∧k_≠j6∧k_≠j7∧k_≠g)∧k_ < jK.heap.size) u449001 j5 from (aAp (mH (ok:=fun k_=>(((w.heap.size≤k_))∧(some k_≠(.slice jb ja.length jc:Value).ownBlock∧(k_≠j6∧(k_≠j7∧k_≠g))))) (by (with_reducible repeat (first|apply rH|apply rM|apply rJ));exact HT.out) (fun k_ hk_=>(⟨hk_,hk_.2.2.2.2⟩:_∧k_≠g))) hk))
     clear HT
     have HT:=nT_
     clear nT_
     have HS:=am (aM (w:=jK) (g:=g) (row:=none) hk)
     have jp:=am (aC.blk hk (g':=j6) (o:= .cells #[.slice none 0 0, .slice none 0 0] 26 (0,0)) (aG_ j8.out) jg.out (by simp))
     have jq:=am (aC.blk hk (g':=j7) (o:= .cells #[.slice jb ja.length jc,u449001] 26 (0,0)) (aG_ j9.out) jh.out (by simp))
     have jr:=am (Kd.eU (Kd.aW (ok':=fun k_=>(w.heap.size≤k_)∧some k_≠(jZ:Value).ownBlock∧some k_≠(q0:Value).ownBlock∧some k_≠(.slice jb ja.length jc:Value).ownBlock∧some k_≠(u449001:Value).ownBlock∧k_≠j6∧k_≠j7∧k_≠g) ho0 (fun k_ hk_=>⟨(Nat.le_trans (aM (w:=w) (g:=g) (row:=none) mK) hk_.1),hk_.2.1,hk_.2.2,(Kd.fresh' (Kd.iN (aR_ j4.out)) k_ hk_.1),(Kd.fresh' (Kd.uG (aN_ j3.out)) k_ hk_.1),(lJ j8.out k_ hk_.1),(lJ j9.out k_ hk_.1),(aI.fresh nO k_ hk_.1)⟩)) (aM (w:=w) (g:=g) (row:=none) mK))
     have HE0:=am (Kd.eU (Kd.aW (ok':=fun k_=>((w.heap.size≤k_)∧some k_≠(jZ:Value).ownBlock∧some k_≠(q0:Value).ownBlock∧some k_≠(.slice jb ja.length jc:Value).ownBlock∧some k_≠(u449001:Value).ownBlock∧k_≠j6∧k_≠j7∧k_≠g)∧jK.heap.size≤k_) ho0 (fun k_ hk_=>⟨⟨(Nat.le_trans (aM (w:=w) (g:=g) (row:=none) mK) hk_.1),hk_.2.1,hk_.2.2,(Kd.fresh' (Kd.iN (aR_ j4.out)) k_ hk_.1),(Kd.fresh' (Kd.uG (aN_ j3.out)) k_ hk_.1),(lJ j8.out k_ hk_.1),(lJ j9.out k_ hk_.1),(aI.fresh nO k_ hk_.1)⟩,hk_.1⟩)) (aM (w:=w) (g:=g) (row:=none) mK))
     have js:=am (Kd.eU (Kd.aW (ok':=fun k_=>(w.heap.size≤k_)∧some k_≠(jY:Value).ownBlock∧some k_≠(q0:Value).ownBlock∧some k_≠(.slice jb ja.length jc:Value).ownBlock∧some k_≠(u449001:Value).ownBlock∧k_≠j6∧k_≠j7∧k_≠g) ho1 (fun k_ hk_=>⟨(Nat.le_trans (aM (w:=w) (g:=g) (row:=none) mK) hk_.1),hk_.2.1,hk_.2.2,(Kd.fresh' (Kd.iN (aR_ j4.out)) k_ hk_.1),(Kd.fresh' (Kd.uG (aN_ j3.out)) k_ hk_.1),(lJ j8.out k_ hk_.1),(lJ j9.out k_ hk_.1),(aI.fresh nO k_ hk_.1)⟩)) (aM (w:=w) (g:=g) (row:=none) mK))
     have HE1:=am (Kd.eU (Kd.aW (ok':=fun k_=>((w.heap.size≤k_)∧some k_≠(jY:Value).ownBlock∧some k_≠(q0:Value).ownBlock∧some k_≠(.slice jb ja.length jc:Value).ownBlock∧some k_≠(u449001:Value).ownBlock∧k_≠j6∧k_≠j7∧k_≠g)∧jK.heap.size≤k_) ho1 (fun k_ hk_=>⟨⟨(Nat.le_trans (aM (w:=w) (g:=g) (row:=none) mK) hk_.1),hk_.2.1,hk_.2.2,(Kd.fresh' (Kd.iN (aR_ j4.out)) k_ hk_.1),(Kd.fresh' (Kd.uG (aN_ j3.out)) k_ hk_.1),(lJ j8.out k_ hk_.1),(lJ j9.out k_ hk_.1),(aI.fresh nO k_ hk_.1)⟩,hk_.1⟩)) (aM (w:=w) (g:=g) (row:=none) mK))
     have jt:=am (Kd.eU (Kd.aW (ok':=fun k_=>(w.heap.size≤k_)∧some k_≠(jY:Value).ownBlock∧some k_≠(jZ:Value).ownBlock∧some k_≠(.slice jb ja.length jc:Value).ownBlock∧some k_≠(u449001:Value).ownBlock∧k_≠j6∧k_≠j7∧k_≠g) ho2 (fun k_ hk_=>⟨(Nat.le_trans (aM (w:=w) (g:=g) (row:=none) mK) hk_.1),hk_.2.1,hk_.2.2,(Kd.fresh' (Kd.iN (aR_ j4.out)) k_ hk_.1),(Kd.fresh' (Kd.uG (aN_ j3.out)) k_ hk_.1),(lJ j8.out k_ hk_.1),(lJ j9.out k_ hk_.1),(aI.fresh nO k_ hk_.1)⟩)) (aM (w:=w) (g:=g) (row:=none) mK))
     have HE2:=am (Kd.eU (Kd.aW (ok':=fun k_=>((w.heap.size≤k_)∧some k_≠(jY:Value).ownBlock∧some k_≠(jZ:Value).ownBlock∧some k_≠(.slice jb ja.length jc:Value).ownBlock∧some k_≠(u449001:Value).ownBlock∧k_≠j6∧k_≠j7∧k_≠g)∧jK.heap.size≤k_) ho2 (fun k_ hk_=>⟨⟨(Nat.le_trans (aM (w:=w) (g:=g) (row:=none) mK) hk_.1),hk_.2.1,hk_.2.2,(Kd.fresh' (Kd.iN (aR_ j4.out)) k_ hk_.1),(Kd.fresh' (Kd.uG (aN_ j3.out)) k_ hk_.1),(lJ j8.out k_ hk_.1),(lJ j9.out k_ hk_.1),(aI.fresh nO k_ hk_.1)⟩,hk_.1⟩)) (aM (w:=w) (g:=g) (row:=none) mK))
     have q3:=am (aC.trans mK hk (.inl rfl))
     have zc:=am (hb)
     have zd:=am (hi)
     clear j4
     clear j3
     clear j8
     clear j9
     clear HK
     clear HB
     clear HI0
     have j4:=jn
     have j3:=jo
     have j8:=jp
     have j9:=jq
     have q8:=jr
     have q9:=js
     have qa:=jt
     have HK:=q3
     have HB:=zc
     have HI0:=zd
     clear jn jo jp jq jr js jt q3 zc zd
     (try clear hb)
     (try clear hb2)
     (try clear hk)
     (try clear hi)
     (try clear ho0)
     (try clear ho1)
     (try clear ho2)
     obtain ⟨qq,qr,qs⟩:=Kd.eF q8.out
     (first|subst qs|(injection qs with f1_ f2_ f3_;have f4_:=f1_.symm;have f5_:=f3_.symm;clear f1_ f2_ f3_;subst f4_;subst f5_))
     obtain ⟨qt,qu,qv⟩:=Kd.eF q9.out
     (first|subst qv|(injection qv with f1_ f2_ f3_;have f4_:=f1_.symm;have f5_:=f3_.symm;clear f1_ f2_ f3_;subst f4_;subst f5_))
     obtain ⟨qw,qx,qy⟩:=Kd.eF qa.out
     (first|subst qy|(injection qy with f1_ f2_ f3_;have f4_:=f1_.symm;have f5_:=f3_.symm;clear f1_ f2_ f3_;subst f4_;subst f5_))
     refine hK.out _ _ (vW j9.out) (fun hHeld=>?_)
     clear hK K
     refine eZ (a':=?_) ?_ ?_
     rotate_left
     ·exact ap_ (N:=34)
     refine gY (i:=4) (N:=some 35) (bz 7 31) rfl rfl (by kernel_rfl) (by decide) (fun K hK=>?_)
     refine Kd.rZ k58 _ 58 rfl (N':=35) rfl (xs:=([(⟨jx,jy,jz,(⟨jA,jB,jC⟩:S56),jD,jE⟩:S58)]:List (S58))) (inner:=[.int .i64 jx, .int .i64 jy, .int .i64 jz, .int .i64 jA, .int .i64 jB, .slice qq jC.length qr, .slice qt jD.length qu, .slice qw jE.length qx]) (ok:=(fun k_=>((w.heap.size≤k_)∧some k_≠(.slice jb ja.length jc:Value).ownBlock∧some k_≠(u449001:Value).ownBlock∧k_≠j6∧k_≠j7∧k_≠g)∧jK.heap.size≤k_)) (okp:=(fun k_=>((w.heap.size≤k_)∧some k_≠(.slice jb ja.length jc:Value).ownBlock∧some k_≠(u449001:Value).ownBlock∧k_≠j6∧k_≠j7∧k_≠g)∧jK.heap.size≤k_)) rn_ ?hp (fun _ hk=>hk) ⟨((show ∀ k_,zA.heap.size≤k_→(fun k_=>(w.heap.size≤k_)∧some k_≠(.slice jb ja.length jc:Value).ownBlock∧some k_≠(u449001:Value).ownBlock∧k_≠j6∧k_≠j7∧k_≠g) k_ from fun k_ hk=>⟨(Nat.le_trans (aM (w:=w) (g:=g) (row:=none) mK) hk),Kd.fresh' (Kd.iN (aR_ j4.out)) k_ hk,Kd.fresh' (Kd.uG (aN_ j3.out)) k_ hk,lJ j8.out k_ hk,lJ j9.out k_ hk,aI.fresh nO k_ hk⟩) _ (Nat.le_refl _)),HS.out⟩ (Below.refl _ _) (Nat.le_refl _) (by simp) ?_;(case hp=>exact (dF.c8 (show Kd.FK k58 _ _ (⟨jx,jy,jz,(⟨jA,jB,jC⟩:S56),jD,jE⟩:S58) [.int .i64 jx, .int .i64 jy, .int .i64 jz, .int .i64 jA, .int .i64 jB, .slice qq jC.length qr, .slice qt jD.length qu, .slice qw jE.length qx] from (nU _ _ (⟨jx,jy,jz,(⟨jA,jB,jC⟩:S56),jD,jE⟩:S58) (Kd.eP (Kd.aW (ok':=(fun k_=>((w.heap.size≤k_)∧some k_≠(.slice jb ja.length jc:Value).ownBlock∧some k_≠(u449001:Value).ownBlock∧k_≠j6∧k_≠j7∧k_≠g)∧jK.heap.size≤k_)) (HE0.out) (fun k_ hk=>⟨⟨hk.1.1,⟨hk.1.2.2.2.1,⟨hk.1.2.2.2.2.1,⟨hk.1.2.2.2.2.2.1,⟨hk.1.2.2.2.2.2.2.1,hk.1.2.2.2.2.2.2.2⟩⟩⟩⟩⟩,hk.2⟩))).2.1 (Kd.N_F (Kd.aW (ok':=(fun k_=>((w.heap.size≤k_)∧some k_≠(.slice jb ja.length jc:Value).ownBlock∧some k_≠(u449001:Value).ownBlock∧k_≠j6∧k_≠j7∧k_≠g)∧jK.heap.size≤k_)) (HE0.out) (fun k_ hk=>⟨⟨hk.1.1,⟨hk.1.2.2.2.1,⟨hk.1.2.2.2.2.1,⟨hk.1.2.2.2.2.2.1,⟨hk.1.2.2.2.2.2.2.1,hk.1.2.2.2.2.2.2.2⟩⟩⟩⟩⟩,hk.2⟩))) (Kd.eP (Kd.aW (ok':=(fun k_=>((w.heap.size≤k_)∧some k_≠(.slice jb ja.length jc:Value).ownBlock∧some k_≠(u449001:Value).ownBlock∧k_≠j6∧k_≠j7∧k_≠g)∧jK.heap.size≤k_)) (HE1.out) (fun k_ hk=>⟨⟨hk.1.1,⟨hk.1.2.2.2.1,⟨hk.1.2.2.2.2.1,⟨hk.1.2.2.2.2.2.1,⟨hk.1.2.2.2.2.2.2.1,hk.1.2.2.2.2.2.2.2⟩⟩⟩⟩⟩,hk.2⟩))).2.1 (Kd.N_F (Kd.aW (ok':=(fun k_=>((w.heap.size≤k_)∧some k_≠(.slice jb ja.length jc:Value).ownBlock∧some k_≠(u449001:Value).ownBlock∧k_≠j6∧k_≠j7∧k_≠g)∧jK.heap.size≤k_)) (HE1.out) (fun k_ hk=>⟨⟨hk.1.1,⟨hk.1.2.2.2.1,⟨hk.1.2.2.2.2.1,⟨hk.1.2.2.2.2.2.1,⟨hk.1.2.2.2.2.2.2.1,hk.1.2.2.2.2.2.2.2⟩⟩⟩⟩⟩,hk.2⟩))) (Kd.eP (Kd.aW (ok':=(fun k_=>((w.heap.size≤k_)∧some k_≠(.slice jb ja.length jc:Value).ownBlock∧some k_≠(u449001:Value).ownBlock∧k_≠j6∧k_≠j7∧k_≠g)∧jK.heap.size≤k_)) (HE2.out) (fun k_ hk=>⟨⟨hk.1.1,⟨hk.1.2.2.2.1,⟨hk.1.2.2.2.2.1,⟨hk.1.2.2.2.2.2.1,⟨hk.1.2.2.2.2.2.2.1,hk.1.2.2.2.2.2.2.2⟩⟩⟩⟩⟩,hk.2⟩))).2.1 (Kd.N_F (Kd.aW (ok':=(fun k_=>((w.heap.size≤k_)∧some k_≠(.slice jb ja.length jc:Value).ownBlock∧some k_≠(u449001:Value).ownBlock∧k_≠j6∧k_≠j7∧k_≠g)∧jK.heap.size≤k_)) (HE2.out) (fun k_ hk=>⟨⟨hk.1.1,⟨hk.1.2.2.2.1,⟨hk.1.2.2.2.2.1,⟨hk.1.2.2.2.2.2.1,⟨hk.1.2.2.2.2.2.2.1,hk.1.2.2.2.2.2.2.2⟩⟩⟩⟩⟩,hk.2⟩))))) (dF.none _ _)))
     intro zB q1 ho36 hb hg_ hnew_
     clear hg_ hnew_
     (first|rw [← q6.out] at ho36|(simp only [Int.reduceToNat] at ho36;rw [← q6.out] at ho36))
     have jn:=am (Kd.gG (aR_ j4.out) hb)
     have jo:=am (Kd.rG (aN_ j3.out) (Kd.kC ho36) hb)
     have nT_:=am (xG HT.out hb)
     clear HT
     have HT:=nT_
     clear nT_
     have HP:=am (Kd.eU ho36 (aM (w:=w) (g:=g) (row:=none) mK))
     have jp:=am (Kd.eU (Kd.aW (ok':=fun k_=>(w.heap.size≤k_)∧some k_≠(.slice jb ja.length jc:Value).ownBlock∧some k_≠(u449001:Value).ownBlock∧k_≠j6∧k_≠j7∧k_≠g) ho36 (fun _ h_=>h_.1)) (aM (w:=w) (g:=g) (row:=none) mK))
     have jq:=bbP j8 hb
     have jr:=bbP j9 hb
     have js:=am (aI.below nO hb)
     have jt:=am (aC.trans mK (aC.of_below hb g none) (.inl rfl))
     have q3:=am (aA xJ hb)
     clear j4
     clear j3
     clear j8
     clear j9
     clear HI0
     clear HK
     clear HB
     clear q8
     clear q9
     clear qa
     have j4:=jn
     have j3:=jo
     have jO:=jp
     have j8:=jq
     have j9:=jr
     have HI0:=js
     have HK:=jt
     have HB:=q3
     clear jn jo jp jq jr js jt q3
     clear hb ho36
     obtain ⟨Aq_,cq_,rfl⟩:=Kd.eF jO.out
     have z0:0≤(0:Int):=(by omega)
     have z1:(0:Int) < ((j5.length:Int):Int):=of_decide_eq_true eB
     have zC:(0 < j5.length)=True:=eq_true (by omega)
     obtain ⟨ji,jv,qz,qA,gl28,cl28,qB⟩:=Kd.TJ j3.out (by omega)
     (first|cases qz|(injection qz with ea_ en_ ec_;(first|subst ea_|(injection ea_ with ea_;subst ea_));subst ec_;clear en_))
     have GB28:=am qA
     have z2:=am qB
     clear qA gl28 qB
     obtain ⟨ce28,hcl28,hM28,hcc28,hfr28⟩:=Kd.OH j3.out [] (0:Int) z0 z1
     obtain ⟨ua28_0,uc28_0,rfl,ul28_0,ge28_0⟩:=Kd.mJ hM28
     have jF:=hcc28 0 _ rfl
     have hf28_0:=hfr28 0
     (try simp only [show ((Kd.slice 58 k58)).sz=1 from rfl,Nat.mul_one,Nat.add_zero] at jF)
     (try simp only [show ((Kd.slice 58 k58)).sz=1 from rfl,Nat.mul_one,Nat.add_zero] at hf28_0)
     clear hcl28 hcc28 hfr28 hM28
     (try rw [show ((0:Int)).toNat=0 from rfl] at jF)
     (try simp only [Nat.reduceMul,Nat.zero_mul,Nat.zero_add,Nat.reduceAdd] at jF)
     (try rw [show ((0:Int)).toNat=0 from rfl] at hf28_0)
     (try simp only [Nat.reduceMul,Nat.zero_mul,Nat.zero_add,Nat.reduceAdd] at hf28_0)
     replace z0:=eq_true z0
     replace z1:=eq_true z1
     have HN0_go28:=am (show g≠ji from by have h_:=aI.DJ HI0.out j3.out (by decide);intro e_;exact h_ (by rw [e_];rfl))
     have jL:=am (show Kd.N (Kd.slice 58 k58) 33 _ w.heap.size (fun k_=>(w.heap.size≤k_)∧some k_≠(.slice jb ja.length jc:Value).ownBlock∧some k_≠((.slice Aq_ jk.length cq_):Value).ownBlock∧k_≠j6∧k_≠j7∧k_≠g) (.slice (some ⟨ji,0,none⟩) j5.length jv) j5 from (Kd.aW (j3.out) (fun k_ hk=>⟨hk.1.1.1.1.1,⟨hk.1.1.1.1.2.1,⟨hk.2,⟨hk.1.1.1.1.2.2.1,⟨hk.1.1.1.1.2.2.2.1,hk.1.1.1.1.2.2.2.2⟩⟩⟩⟩⟩)))
     replace jL:=am (show Kd.N (Kd.slice 58 k58) 33 _ w.heap.size (fun k_=>(w.heap.size≤k_)∧some k_≠(.slice jb ja.length jc:Value).ownBlock∧k_≠j6∧k_≠j7∧k_≠g) (.slice (some ⟨ji,0,none⟩) j5.length jv) j5 from Kd.aW jL.out (fun k_ hk=>⟨hk.1,⟨hk.2.1,⟨hk.2.2.2.1,⟨hk.2.2.2.2.1,hk.2.2.2.2.2⟩⟩⟩⟩))
     obtain ⟨ce37,hcl37,hM37,hcc37,hfr37⟩:=Kd.OH jL.out [] (0:Int) (by omega) (by have h_:(0:Int) < ((j5.length:Int):Int):=of_decide_eq_true eB;first|exact h_|(have e_:=(Kd.eP j3.out).1;omega)|simpa using h_)
     obtain ⟨ua37_0,uc37_0,rfl,ul37_0,ge37_0⟩:=Kd.mJ hM37
     have HP37:=(Kd.aHj jL.out (0:Int) (by omega) (by have h_:(0:Int) < ((j5.length:Int):Int):=of_decide_eq_true eB;first|exact h_|(have e_:=(Kd.eP j3.out).1;omega)|simpa using h_) (seg:=[(.slice Aq_ jk.length cq_)]) (j:=0) hcl37 hcc37 (show 1≤1 from by decide) (x':=jk) (Kd.nM (Kd.eP (Kd.aW (ok':=(fun k_=>((fun k_=>(w.heap.size≤k_)∧some k_≠(.slice jb ja.length jc:Value).ownBlock∧k_≠j6∧k_≠j7∧k_≠g)) k_∧k_≠ji)) (jO.out) (fun k_ hk=>⟨⟨hk.1,⟨hk.2.1,⟨hk.2.2.2.1,⟨hk.2.2.2.2.1,hk.2.2.2.2.2⟩⟩⟩⟩,fun e_=>(hk.2.2.1) (by rw [e_];rfl)⟩))).2.1 (Kd.N_F (Kd.aW (ok':=(fun k_=>((fun k_=>(w.heap.size≤k_)∧some k_≠(.slice jb ja.length jc:Value).ownBlock∧k_≠j6∧k_≠j7∧k_≠g)) k_∧k_≠ji)) (jO.out) (fun k_ hk=>⟨⟨hk.1,⟨hk.2.1,⟨hk.2.2.2.1,⟨hk.2.2.2.2.1,hk.2.2.2.2.2⟩⟩⟩⟩,fun e_=>(hk.2.2.1) (by rw [e_];rfl)⟩)))) (fun _ hk=>hk)).1
     (try simp only [show ((Kd.slice 58 k58)).sz=1 from rfl,Nat.mul_one,Nat.add_zero] at HP37)
     rw [← q7.out] at HP37
     have HTq:=aGq (ok:=(fun k_=>(w.heap.size≤k_)∧some k_≠((.slice jb ja.length jc):Value).ownBlock∧k_≠j6∧k_≠j7∧k_≠g)) HT.out (by have h_:(0:Int) < ((j5.length:Int):Int):=of_decide_eq_true eB;omega) HP.out (by exact fun k_ hk=>⟨⟨hk.1.1,hk.1.2.1,hk.1.2.2.2.1,hk.1.2.2.2.2.1,hk.1.2.2.2.2.2⟩,fun e_=>(hk.1.2.2.1) (by rw [e_];rfl)⟩) (by exact fun _ hk=>hk.1) (by exact fun _ h0 _ h1=>absurd h1.2 (Nat.not_le.mpr h0.2))
     rw [← q7.out] at HTq
     have HTQ:=am HTq
     clear HTq HT HP
     have HQ37:=am HP37
     clear hcl37 hcc37 hfr37 hM37 HP37
     refine hK.out _ _ (vW j9.out) (fun hHeld=>?_)
     clear hK K
     refine eZ (a':=?_) ?_ ?_
     rotate_left
     ·exact ap_ (N:=35)
     refine tO (i:=5) (N:=some 36) (v:=?_) (a':=?_) (bz 7 63) rfl rfl (by kernel_rfl) (fun _ _ _ h=>h) (Or.inl ⟨by rfl,?_⟩) ?_ ?_
     rotate_left
     ·intro w'
      go_simp
      with_reducible rfl
     rotate_left
     ·simp only [Act.put,List.setIfInBounds_toArray,List.set_cons_zero,List.set_cons_succ,fI,fO]
      rfl
     refine NQ (i:=6) (N:=none) (bz 7 127) rfl rfl (by kernel_rfl) (by decide) (fun K hK=>?_)
     refine xZ (w1:=?_) (by rfl) rfl ?_ ?_
     rotate_left
     ·go_simp
      rfl
     refine hK.out _ _ ?_
     clear hK K
     refine nA (by kernel_rfl) ?_
     have jn:Aside0 (Kd.R (Kd.int .i64) 3 (q1.setCell ⟨ji,0,none⟩ (.slice Aq_ jk.length cq_)) w.heap.size (fun k_=>(w.heap.size≤k_)) (.slice jb ja.length jc) ja):=⟨gH (Kd.bV (Kd.kI (p:=⟨ji,0,none⟩) (Kd.lW j4.out z2.out (by decide)) (fun _ hk=>hk.2) (.slice Aq_ jk.length cq_)) (fun _ hk=>hk.1))⟩
     have jo:Aside0 (Kd.N (Kd.slice 58 k58) 33 (q1.setCell ⟨ji,0,none⟩ (.slice Aq_ jk.length cq_)) w.heap.size (fun k_=>(w.heap.size≤k_)∧some k_≠(.slice jb ja.length jc:Value).ownBlock∧k_≠j6∧k_≠j7∧k_≠g) (.slice (some ⟨ji,0,none⟩) j5.length jv) qe):=⟨lN HQ37.out⟩
     have nT_:Aside0 (TF (q1.setCell ⟨ji,0,none⟩ (.slice Aq_ jk.length cq_)) w.heap.size (fun k_=>(w.heap.size≤k_)∧some k_≠(.slice jb ja.length jc:Value).ownBlock∧k_≠j6∧k_≠j7∧k_≠g) (.slice (some ⟨ji,0,none⟩) j5.length jv) qe):=⟨HTQ.out⟩
     have jp:Aside0 ((q1.setCell ⟨ji,0,none⟩ (.slice Aq_ jk.length cq_)).heap[j6]?=some (.cells #[.slice none 0 0, .slice none 0 0] 26 (0,0))):=⟨by (with_reducible repeat (first|refine dQ ?_ _|refine dA ?_|refine dP ?_ _));refine mV ?_ (by have h_:=Kd.aCn jL.out (fun _ hk=>hk.2.2.1);intro e_;exact h_ (by rw [e_];rfl)) _;(with_reducible repeat (first|refine dQ ?_ _|refine dA ?_|refine dP ?_ _));exact j8.out⟩
     have jq:Aside0 ((q1.setCell ⟨ji,0,none⟩ (.slice Aq_ jk.length cq_)).heap[j7]?=some (.cells #[.slice jb ja.length jc, .slice (some ⟨ji,0,none⟩) j5.length jv] 26 (0,0))):=⟨by (with_reducible repeat (first|refine dQ ?_ _|refine dA ?_|refine dP ?_ _));refine mV ?_ (by have h_:=Kd.aCn jL.out (fun _ hk=>hk.2.2.2.1);intro e_;exact h_ (by rw [e_];rfl)) _;(with_reducible repeat (first|refine dQ ?_ _|refine dA ?_|refine dP ?_ _));exact j9.out⟩
     have jr:Aside0 (aI w0 (q1.setCell ⟨ji,0,none⟩ (.slice Aq_ jk.length cq_)) g je jX):=⟨by repeat (first|(with_reducible first|exact HI0.out|apply aI.alloc|apply aI.drewN|apply aI.drew|apply aI.uR|refine aI.far ?_ HN0_go28.out _|refine aI.far ?_ NB0_440.out _|refine aI.far ?_ NB0_448.out _)|exact HI0.out)⟩
     have js:Aside0 (aC w (q1.setCell ⟨ji,0,none⟩ (.slice Aq_ jk.length cq_)) g none):=⟨by repeat (first|(with_reducible first|exact HK.out|apply aC.yY|apply kG|apply gT|apply kY|refine gX ?_ GB28.out _|refine gX ?_ GW440.out _|refine gX ?_ GW448.out _)|exact HK.out)⟩
     have jt:Aside0 (Below w0.heap.size w0 (q1.setCell ⟨ji,0,none⟩ (.slice Aq_ jk.length cq_))):=⟨by repeat (first|(with_reducible first|exact HB.out|apply cZ|apply aU|apply bJ|refine below_set ?_ (Nat.le_trans HL.out GB28.out)|refine below_set ?_ (aI.ge HI0.out)|refine below_set ?_ GE440.out|refine below_set ?_ GE448.out)|exact HB.out)⟩
     (try clear j4)
     (try clear j3)
     (try clear j8)
     (try clear j9)
     (try clear HI0)
     (try clear HK)
     (try clear HB)
     generalize (q1.setCell ⟨ji,0,none⟩ (.slice Aq_ jk.length cq_))=zG at nT_ jn jo jp jq jr js jt ⊢
     have HT:=nT_
     clear nT_
     have j4:=jn
     have j3:=jo
     have j8:=jp
     have j9:=jq
     have HI0:=jr
     have HK:=js
     have HB:=jt
     clear jn jo jp jq jr js jt
     have ze:=jj.out
     have zf:=jd.out
     have zg:=jh.out
     have zh:=NB0_448.out
     obtain ⟨qH,qI,qJ,qK⟩:=iV j9.out
     have zi:=jg.out
     have zj:=NB0_440.out
     obtain ⟨qL,qM,qN,qO⟩:=iV j8.out
     try go_wp2
     refine bodyPost_ret (results_cell_row rfl _ _ j6 26 #[.slice jb ja.length jc, .slice (some ⟨ji,0,none⟩) j5.length jv] (0,0) _ rfl (aY (aY j8.out 0 _ rfl) 1 _ rfl) Tryz.underlying26 rfl (by kernel_rfl)) rfl ?_
     exact ⟨_,_,gN,gH (Kd.bV (Kd.kI (p:=⟨j6,1,none⟩) (Kd.kI (p:=⟨j6,0,none⟩) (Kd.lW j4.out j8.out (by decide)) (fun _ hk=>hk.2) (.slice jb ja.length jc)) (fun _ hk=>hk.2) (.slice (some ⟨ji,0,none⟩) j5.length jv)) (fun _ hk=>hk.1)),by (with_reducible repeat (first|apply rH|apply rM|apply rJ));exact mH (BI (p:=⟨j6,1,none⟩) (BI (p:=⟨j6,0,none⟩) (mH HT.out (fun k_ hk=>(⟨hk,hk.2.2.1⟩:_∧k_≠j6))) (fun _ hk=>hk.2) (.slice jb ja.length jc)) (fun _ hk=>hk.2) (.slice (some ⟨ji,0,none⟩) j5.length jv)) (fun _ hk=>⟨hk.1.1,hk.1.2.1⟩),nO,xJ,mK⟩
    rw [if_neg qG] at H
    exact absurd H (by simp)
   rw [if_neg qd] at H
   have qo:(jw == 0)=false:=beq_eq_false_iff_ne.mpr qd
   have qp:(jw != 0)=true:=bne_iff_ne.mpr qd
   simp only [Option.some.injEq,Prod.mk.injEq] at H
   obtain ⟨rfl,rfl,rfl⟩:=H
   go_wp2_with (first|((with_reducible refine aD (f:=37) rfl ?_);refine gl_ 29 Tryz.func37 #[.pointer (some ⟨g,0,none⟩), .int .i64 16] ?_;(with_reducible refine (aG.calls k1 g je jf 16 jw jW w0 _ ?side1 ?side2 z9.out).mono ?_);(case side1=>exact nO);(case side2=>exact xJ);rintro e zH ⟨rfl,hi,hb,hk⟩;refine ⟨_,rfl,?_⟩;have jn:=am (Kd.bV (Kd.pG (aI.apart (show aI w0 _ g je jf from nO) (aR_ j4.out) (by decide)) hk (fun _ h=>h.2)) (fun _ h=>h.1));have jo:=am (Kd.aW (Kd.pF (Kd.aW (ok:=fun k_=>(((w.heap.size≤k_))∧(some k_≠(.slice jb ja.length jc:Value).ownBlock∧(k_≠j6∧(k_≠j7∧k_≠g))))) (aN_ j3.out) (fun k_ hk_=>(⟨hk_,hk_.2.2.2.2⟩:_∧k_≠g))) hk (fun _ h=>h.2)) (fun _ h=>h.1));have nT_:=am (mH (IE (mH (ok:=fun k_=>(((w.heap.size≤k_))∧(some k_≠(.slice jb ja.length jc:Value).ownBlock∧(k_≠j6∧(k_≠j7∧k_≠g))))) (by (with_reducible repeat (first|apply rH|apply rM|apply rJ));exact HT.out) (fun k_ hk_=>(⟨hk_,hk_.2.2.2.2⟩:_∧k_≠g))) hk (fun _ h=>h.2)) (fun _ h=>h.1));clear HT;have HT:=nT_;clear nT_;have jp:=am (aC.blk hk (g':=j6) (o:= .cells #[.slice none 0 0, .slice none 0 0] 26 (0,0)) (aG_ j8.out) jg.out (by simp));have jq:=am (aC.blk hk (g':=j7) (o:= .cells #[.slice jb ja.length jc,u449001] 26 (0,0)) (aG_ j9.out) jh.out (by simp));have jr:=am (aC.trans mK hk (.inl rfl));have js:=am (hb);have jt:=am (hi);clear j4 j3 j8 j9 HK HB HI0;have j4:=jn;have j3:=jo;have j8:=jp;have j9:=jq;have HK:=jr;have HB:=js;have HI0:=jt;clear jn jo jp jq jr js jt;(try clear hb);(try clear hk);(try clear hi);have zk:=jj.out;have zl:=jd.out;have zm:=jh.out;have zn:=NB0_448.out;obtain ⟨qP,qQ,qR,qS⟩:=iV j9.out;have zo:=jg.out;have zp:=NB0_440.out;obtain ⟨qU,qV,qW,qX⟩:=iV j8.out;obtain ⟨qf,qg,z3⟩:=Kd.eF j3.out;subst z3))
   refine bodyPost_ret (results_cell_row rfl _ _ j6 26 #[.slice jb ja.length jc, .slice qf j5.length qg] (0,0) _ rfl (aY (aY j8.out 0 _ rfl) 1 _ rfl) Tryz.underlying26 rfl (by kernel_rfl)) rfl ?_
   exact ⟨_,_,gN,gH (Kd.bV (Kd.kI (p:=⟨j6,1,none⟩) (Kd.kI (p:=⟨j6,0,none⟩) (Kd.lW j4.out j8.out (by decide)) (fun _ hk=>hk.2) (.slice jb ja.length jc)) (fun _ hk=>hk.2) (.slice qf j5.length qg)) (fun _ hk=>hk.1)),by (with_reducible repeat (first|apply rH|apply rM|apply rJ));exact mH (BI (p:=⟨j6,1,none⟩) (BI (p:=⟨j6,0,none⟩) (mH HT.out (fun k_ hk=>(⟨hk,hk.2.2.1⟩:_∧k_≠j6))) (fun _ hk=>hk.2) (.slice jb ja.length jc)) (fun _ hk=>hk.2) (.slice qf j5.length qg)) (fun _ hk=>⟨hk.1.1,hk.1.2.1⟩),nO,xJ,mK⟩
theorem bS.calls (k:Nat) (g:Nat) (j3:List Int) (j4:Int) (r1:List Int) (r2:List (List (S58))) (r3:Int) (w0 w:World) (hI:aI w0 w g j3 j4) (hB:Below w0.heap.size w0 w) (h:bS.f k j3 j4=some (r1,r2,r3)):
  Calls Tryz.prog 36 #[.pointer (some ⟨g,0,none⟩)] w fun e w'=>∃ v0_ v1_:Value,e= .returned (.agg #[v0_,v1_])∧Kd.R (Kd.int .i64) 3 w' w.heap.size (fun k_=>(w.heap.size≤k_)) v0_ r1∧Kd.N (Kd.slice 58 k58) 33 w' w.heap.size (fun k_=>(w.heap.size≤k_)∧some k_≠(v0_:Value).ownBlock) v1_ r2∧aI w0 w' g j3 r3∧Below w0.heap.size w0 w'∧aC w w' g none:=
 (bS.callsT k g j3 j4 r1 r2 r3 w0 w hI hB h).mono fun _ _ ⟨v0_,v1_,he,h0,h1,h2⟩=>⟨v0_,v1_,he,h0,EF h1,h2⟩
theorem dD.mono:∀ a0 a1 k,LeO (dD.f k a0 a1) (dD.f (k + 1) a0 a1):=by
 intro a0 a1 k
 unfold dD.f
 have m0:=@aG.mono
 have m1:=@iE.mono
 have m2:=@bS.mono
 exact mo_
def dD.T4:Bool × List (List Nat × List Nat):=(true,[([],[]),([0],[0]),([],[]),([],[]),([3],[3]),([2,4],[2,4]),([5],[5]),([6],[6]),([1,7,4],[1,7]),([0,1,2,3,4,5,6,7,8],[]),([9,8,8,0,1,2,3,4,5,6,7,8],[8,9])])
def dD.B4:List Nat:=[0,1,0,0,8,28,60,124,255,511,1023]
theorem dD.aHy:lV .any (opsOf Tryz.f17 4)=dD.T4:=by kernel_rfl
theorem dD.aHo:iP dD.T4.2 dD.B4=true:=by kernel_rfl
def dD.T6:Bool × List (List Nat × List Nat):=(true,[([],[]),([0],[0]),([],[]),([2],[2]),([3],[3]),([],[]),([5],[5]),([4,6],[4,6]),([7],[7]),([8],[8]),([1,9,6],[1,9]),([0,1,2,3,4,5,6,7,8,9,10],[]),([11,10,10,0,1,2,3,4,5,6,7,8,9,10],[10,11])])
def dD.B6:List Nat:=[0,1,0,4,12,0,32,124,252,508,1023,2047,4095]
theorem dD.PN:lV .any (opsOf Tryz.f17 6)=dD.T6:=by kernel_rfl
theorem dD.CQ:iP dD.T6.2 dD.B6=true:=by kernel_rfl
def dD.T10:Bool × List (List Nat × List Nat):=(true,[([],[]),([0],[0]),([],[]),([2],[2]),([3],[3]),([4],[4]),([],[]),([6],[6]),([7],[7]),([8],[8]),([],[]),([10],[10]),([11],[11]),([12],[12]),([5,9,13],[5,9,13]),([1,14],[1,14]),([0,1,2,3,4,5,6,7,8,9,10,11,12,13,14,15],[]),([16,15,15,0,1,2,3,4,5,6,7,8,9,10,11,12,13,14,15],[15,16])])
def dD.B10:List Nat:=[0,1,0,4,12,28,0,64,192,448,0,1024,3072,7168,16380,32767,65535,131071]
theorem dD.aEb:lV .any (opsOf Tryz.f17 10)=dD.T10:=by kernel_rfl
theorem dD.TS:iP dD.T10.2 dD.B10=true:=by kernel_rfl
theorem aBq {w:World} {base:Nat} {ok:Nat→Prop} {v:Value} {ts:List (List S58)} (h:TF w base ok v ts) (a:Nat) (ha:w.heap.size≤a):TF w base (fun k=>ok k∧k≠a) v ts:=mH (IY h) (fun k hk=>⟨hk.1,by have:=hk.2;omega⟩)
theorem aCp {w:World} {base base':Nat} {ok:Nat→Prop} {v:Value} {ts:List (List S58)} (h:TF w base ok v ts) (hb:base'≤base):TF w base' ok v ts:=by
 obtain ⟨h0,P,rows,hl,hR,he,hf⟩:=h
 refine ⟨h0,P,rows,hl,Kd.fG hR hb,fun t c ht hc=>?_,hf⟩
 obtain ⟨u,rfl,hn⟩:=he t c ht hc
 exact ⟨u,rfl,Kd.eU hn hb⟩
def TG (W:World) (base:Nat) (ok:Nat→Prop) (s g n cap:Nat) (ts:List (List S58)) (u:Value) (t:List S58):Prop:=
 ok g∧∃ (ok1:Nat→Prop) (rows:List (List Value)),(∀ k,ok1 k→ok k∧k≠g)∧(∀ k,s≤k→ok1 k)∧rows.length=ts.length∧(Kd.raw 1).R 33 W base (fun k=>k=g) (.slice (some ⟨g,0,none⟩) n cap) rows∧Kd.N k58 58 W base ok1 u t∧
  (∀ j t c,ts[j + 1]?=some t→rows[j + 1]?=some c→Kd.FK (Kd.slice 58 k58) W (fun k=>(ok k∧k≠g)∧¬ ok1 k) t c)
section
variable {W w1:World} {base s g n cap:Nat} {ok:Nat→Prop} {ts:List (List S58)} {u:Value} {t:List S58}
theorem aHm (h:TF W base ok (.slice (some ⟨g,0,none⟩) n cap) ts) (hn:0 < ts.length) (hfr:∀ k,W.heap.size≤k→ok k∧k≠g):
  ∃ A c,W.cell? ⟨g,0,none⟩=some (.slice A (ts.getD 0 []).length c)∧W.frozen? ⟨g,0,none⟩=false∧TG W base ok W.heap.size g n cap ts (.slice A (ts.getD 0 []).length c) (ts.getD 0 []):=by
 have hgo:some g=(Value.slice (some ⟨g,0,none⟩) n cap).ownBlock:=by simp [Value.ownBlock]
 have hnn:=(Kd.eP (EF h)).1
 obtain ⟨h0,P,rows,hl,hR,he,hf⟩:=IY h
 obtain ⟨c0,hc0⟩:∃ c,rows[0]?=some c:=⟨_,List.getElem?_eq_getElem (by omega)⟩
 obtain ⟨t0,ht0⟩:∃ t,ts[0]?=some t:=⟨_,List.getElem?_eq_getElem hn⟩
 obtain ⟨u0,rfl,j3⟩:=he t0 c0 ht0 hc0
 have et:ts.getD 0 []=t0:=by rw [List.getD_eq_getElem?_getD,ht0];rfl
 rw [et]
 obtain ⟨A,c,rfl⟩:=Kd.eF j3
 obtain ⟨ce,hcl,hM,hcc,hfr2⟩:=Kd.EC hR [] (0:Int) (by omega) (by omega)
 have hce:ce=[.slice A t0.length c]:=by
  have h2:=hM.1
  rw [List.getD_eq_getElem?_getD,show (0:Int).toNat=0 from rfl,hc0] at h2
  exact h2
 subst hce
 have hx:=hcc 0 _ rfl
 have hne:∀ k,some k≠(Value.slice (some ⟨g,0,none⟩) n cap).ownBlock→k≠g:=fun k hk e=>hk (by rw [e];exact hgo)
 refine ⟨A,c,hx,hfr2 0,(h0 g hgo.symm).1,fun k=>(ok k∧k≠g)∧(P k∨W.heap.size≤k),rows,fun k hk=>hk.1,fun k hk=>⟨hfr k hk, .inr hk⟩,hl,Kd.bV hR (fun k hk=>by rw [← hgo] at hk;injection hk),Kd.aW j3 (fun k hk=>⟨⟨hk.1.1.1,hne k hk.1.2⟩, .inl hk.2⟩),fun j t c ht hc=>Kd.mZ (hf j t c ht hc) (fun k hk=>⟨⟨hk.1.1.1,hne k hk.1.2⟩,fun hq=>hq.2.elim hk.2 (fun hle=>Nat.lt_irrefl _ (Nat.lt_of_lt_of_le hk.1.1.2 hle))⟩)⟩
theorem yI (h:TG W base ok s g n cap ts u t):∃ ok1:Nat→Prop,(∀ k,s≤k→ok1 k)∧(∀ k,u.ownBlock=some k→k≠g)∧Kd.N k58 58 W base ok1 u t∧∀ w1 u1 t1,W.grownBy w1 u.ownBlock→Kd.N k58 58 w1 base ok1 u1 t1→TG w1 base ok s g n cap ts u1 t1:=by
 obtain ⟨hg0,ok1,rows,h1,h2,hl,hR,hN,hf⟩:=h
 have hu:∀ k,u.ownBlock=some k→ok1 k:=hN.1
 refine ⟨ok1,h2,fun k hk=>(h1 k (hu k hk)).2,hN,fun w1 u1 t1 hg hN1=>⟨hg0,ok1,rows,h1,h2,hl,Kd.BG hR (fun k hk hlt=>hg.block k hlt (fun e=>?_)),hN1,fun j t c ht hc=>Kd.rE (hf j t c ht hc) (fun k hk hlt=>hg.block k hlt (fun e=>hk.2 (hu k e.symm)))⟩⟩
 rw [hk] at e
 exact (h1 g (hu g e.symm)).2 rfl
theorem aCq (h:TG W base ok s g n cap ts u t) (hb:Below W.heap.size W w1):TG w1 base ok s g n cap ts u t:=by
 obtain ⟨hg0,ok1,rows,h1,h2,hl,hR,hN,hf⟩:=h
 exact ⟨hg0,ok1,rows,h1,h2,hl,Kd.gG hR hb,Kd.kH hN hb,fun j t c ht hc=>Kd.rE (hf j t c ht hc) (fun k _ hlt=>hb.block k hlt)⟩
theorem aEr (h:TG W base ok s g n cap ts u t) (hn:0 < ts.length):TG (W.setCell ⟨g,0,none⟩ u) base ok s g n cap ts u t∧(W.setCell ⟨g,0,none⟩ u).cell? ⟨g,0,none⟩=some u∧W.grownBy (W.setCell ⟨g,0,none⟩ u) (some g):=by
 obtain ⟨hg0,ok1,rows,h1,h2,hl,hR,hN,hf⟩:=h
 have hnn:=(Kd.eH hR).1
 obtain ⟨c,hcl,hM,hcc,hfr⟩:=Kd.EC (Kd.rU hR) [] (0:Int) (by omega) (by omega)
 have hpo:u.oneCell'=true:=by
  obtain ⟨A,cc,rfl⟩:=Kd.eF hN
  rfl
 obtain ⟨h3,h4⟩:=Kd.aAn (Kd.rU hR) (0:Int) (by omega) (by omega) (c:=c) (seg:=[u]) (j:=0) (x':=[u]) (okp:=fun _=>False) hcl hcc (show 0 + [u].length≤1 from Nat.le_refl _) (by
  have e:c.take 0 ++ [u] ++ c.drop (0 + [u].length)=[u]:=by
   have:c.length=1:=hcl
   simp [List.drop_eq_nil_of_le (show c.length≤1 by omega)]
  rw [e]
  exact ⟨rfl,rfl,fun x hx=>by rw [List.mem_singleton] at hx;rw [hx];exact hpo⟩) (fun _ hk=>hk.elim)
 have h4':W.grownBy (W.setCell ⟨g,0,none⟩ u) (some g):=h4
 have h3':(Kd.raw 1).R 33 (W.setCell ⟨g,0,none⟩ u) base (fun k=>some k=(Value.slice (some ⟨g,0,none⟩) n cap).ownBlock) (.slice (some ⟨g,0,none⟩) n cap) (rows.set 0 [u]):=Kd.rC h3
 have hgo:some g=(Value.slice (some ⟨g,0,none⟩) n cap).ownBlock:=by simp [Value.ownBlock]
 obtain ⟨ce,hcl2,hM2,hcc2,_⟩:=Kd.EC h3' [] (0:Int) (by omega) (by omega)
 have hce:ce=[u]:=by
  have h5:=hM2.1
  rw [List.getD_eq_getElem?_getD,show (0:Int).toNat=0 from rfl,List.getElem?_set_self (by omega)] at h5
  exact h5
 subst hce
 refine ⟨⟨hg0,ok1,rows.set 0 [u],h1,h2,by rw [List.length_set,hl],Kd.bV h3' (fun k hk=>by rw [← hgo] at hk;injection hk),Kd.tH hN (fun k hk hlt=>h4'.block k hlt (fun e=>(h1 k hk).2 (by injection e))),fun j t c ht hc=>?_⟩,hcc2 0 _ rfl,h4'⟩
 rw [List.getElem?_set_ne (by omega)] at hc
 exact Kd.rE (hf j t c ht hc) (fun k hk hlt=>h4'.block k hlt (fun e=>hk.1.2 (by injection e)))
theorem aEs (h:TG W base ok s g n cap ts u t) (hn:0 < ts.length) (hc:W.cell? ⟨g,0,none⟩=some u):Kd.N (Kd.slice 58 k58) 33 W base ok (.slice (some ⟨g,0,none⟩) n cap) (ts.set 0 t):=by
 obtain ⟨hg0,ok1,rows,h1,h2,hl,hR,hN,hf⟩:=h
 have hnn:=(Kd.eH hR).1
 have hgo:some g=(Value.slice (some ⟨g,0,none⟩) n cap).ownBlock:=by simp [Value.ownBlock]
 obtain ⟨c0,hc0⟩:∃ c,rows[0]?=some c:=⟨_,List.getElem?_eq_getElem (by omega)⟩
 obtain ⟨ce,hcl,hM,hcc,_⟩:=Kd.EC hR [] (0:Int) (by omega) (by omega)
 have hce:ce=c0:=by
  have h5:=hM.1
  rw [List.getD_eq_getElem?_getD,show (0:Int).toNat=0 from rfl,hc0] at h5
  exact h5
 subst hce
 obtain ⟨y,hy⟩:∃ y,ce=[y]:=by
  match ce,hcl with
  |[y],_=>exact ⟨y,rfl⟩
 subst hy
 have hx:=hcc 0 _ rfl
 have hyu:y=u:=Option.some.inj ((show W.cell? ⟨g,0,none⟩=some y from hx).symm.trans hc)
 subst hyu
 refine ⟨fun k hk=>by rw [← hgo] at hk;injection hk with hk;rw [← hk];exact hg0,rows,by rw [List.length_set,hl],Kd.bV hR (fun k hk=>by rw [hk];exact hgo),fun j x c j3 hc2=>?_⟩
 cases j with
 |zero=>
  rw [List.getElem?_set_self hn] at j3
  injection j3 with j3
  subst j3
  rw [hc0] at hc2
  injection hc2 with hc2
  subst hc2
  obtain ⟨A,cc,rfl⟩:=Kd.eF hN
  exact Kd.mZ (Kd.nM (Kd.eP hN).2.1 (Kd.N_F hN)) (fun k hk=>⟨(h1 k hk).1,fun e=>(h1 k hk).2 (by rw [← hgo] at e;injection e)⟩)
 |succ j=>
  rw [List.getElem?_set_ne (by omega)] at j3
  exact Kd.mZ (hf j x c j3 hc2) (fun k hk=>⟨hk.1.1,fun e=>hk.1.2 (by rw [← hgo] at e;injection e)⟩)
end
structure WF (w0 w:World) (g:Nat) (sl:List Int) (p:Int) (g2 g3:Nat) (AR:Option Addr) (cR:Nat) (rs:List Int) (vT:Value) (W:World):Prop where
 hL:w0.heap.size≤w.heap.size
 hI:aI w0 W g sl p
 hB:Below w0.heap.size w0 W
 hK:aC w W g none
 h2:W.heap[g2]?=some (.cells #[.slice none 0 0, .slice none 0 0] 26 (0,0))
 h3:W.heap[g3]?=some (.cells #[.slice AR rs.length cR,vT] 26 (0,0))
 hR:Kd.R (Kd.int .i64) 3 W w.heap.size (fun k=>w.heap.size≤k) (.slice AR rs.length cR) rs
section
variable {w0 w W W':World} {g:Nat} {sl:List Int} {p:Int} {g2 g3:Nat} {AR:Option Addr} {cR:Nat} {rs:List Int} {vT:Value}
theorem WF.ext (h:WF w0 w g sl p g2 g3 AR cR rs vT W) (hb:Below W.heap.size W W'):WF w0 w g sl p g2 g3 AR cR rs vT W':=
 ⟨h.hL,h.hI.below hb,aA h.hB hb,aC.trans h.hK (aC.of_below hb g none) (.inl rfl),kK h.h2 hb,kK h.h3 hb,Kd.gG h.hR hb⟩
theorem WF.grown (h:WF w0 w g sl p g2 g3 AR cR rs vT W) {b:Nat} (hg:W.grownBy W' (some b)) (hb:w.heap.size≤b) {cl:Array Value} {t:Nat} (hc:W.heap[b]?=some (.cells cl t (0,0))) (j3:t≠26) (j4:t≠69) (h3':t≠3):WF w0 w g sl p g2 g3 AR cR rs vT W':=by
 have ne:∀ {a:Nat} {cs:Array Value} {t':Nat},W.heap[a]?=some (.cells cs t' (0,0))→t≠t'→some a≠some b:=by
  intro a cs t' ha ht e
  injection e with e
  rw [e,hc] at ha
  injection ha with ha
  injection ha with _ ha _
  exact ht ha
 refine ⟨h.hL,h.hI.grown hg ?_,?_,aC.trans h.hK (aC.fV hg g) (.inr ⟨b,rfl,hb⟩),dZ h.h2 hg (ne h.h2 j3),dZ h.h3 hg (ne h.h3 j3),?_⟩
 ·obtain ⟨A0,c0,hq,_⟩:=h.hI
  exact ne hq j4
 ·have hL:=h.hL
  have hK:=aM h.hK
  exact Below.trans h.hB ⟨hg.os,hg.tape,hg.output,hg.size,fun k hk=>hg.block k (by omega) (fun e=>by injection e with e;omega)⟩
 ·refine Kd.IC (v:= .slice (some ⟨b,0,none⟩) 0 0) (e':=t) h.hR (fun k hk=>?_) ?_ (by simpa [Value.ownBlock] using hg)
  ·have e:b=k:=by simpa [Value.ownBlock] using hk
   rw [← e]
   exact ⟨cl,hc⟩
  ·intro q hq
   have e:q=3:=by simpa [Kd.int,Kd.scalar] using hq
   rw [e]
   exact fun e2=>h3' e2.symm
theorem aCf (h:WF w0 w g sl p g2 g3 AR cR rs vT W) (hg2:w.heap.size≤g2) {ts:List (List S58)} {ok:Nat→Prop} (hok:∀ k,ok k→(w.heap.size≤k∧some k≠(.slice AR rs.length cR:Value).ownBlock)∧k≠g2) (hN:Kd.N (Kd.slice 58 k58) 33 W w.heap.size ok vT ts):
  ((W.setCell ⟨g2,0,none⟩ (.slice AR rs.length cR)).setCell ⟨g2,1,none⟩ vT).heap[g2]?=some (.cells #[.slice AR rs.length cR,vT] 26 (0,0))∧
  Kd.R (Kd.int .i64) 3 ((W.setCell ⟨g2,0,none⟩ (.slice AR rs.length cR)).setCell ⟨g2,1,none⟩ vT) w.heap.size (fun k_=>(w.heap.size≤k_)) (.slice AR rs.length cR) rs∧
  Kd.N (Kd.slice 58 k58) 33 ((W.setCell ⟨g2,0,none⟩ (.slice AR rs.length cR)).setCell ⟨g2,1,none⟩ vT) w.heap.size (fun k_=>(w.heap.size≤k_)∧some k_≠(.slice AR rs.length cR:Value).ownBlock) vT ts∧
  aI w0 ((W.setCell ⟨g2,0,none⟩ (.slice AR rs.length cR)).setCell ⟨g2,1,none⟩ vT) g sl p∧Below w0.heap.size w0 ((W.setCell ⟨g2,0,none⟩ (.slice AR rs.length cR)).setCell ⟨g2,1,none⟩ vT)∧aC w ((W.setCell ⟨g2,0,none⟩ (.slice AR rs.length cR)).setCell ⟨g2,1,none⟩ vT) g none:=by
 have hne:g≠g2:=h.hI.WS h.h2 (by decide)
 have hb:w0.heap.size≤g2:=Nat.le_trans h.hL hg2
 refine ⟨aY (cs:=#[.slice AR rs.length cR, .slice none 0 0]) (aY (cs:=#[.slice none 0 0, .slice none 0 0]) h.h2 0 _ rfl) 1 _ rfl,?_,?_,(h.hI.far hne _).far hne _,below_set (below_set h.hB hb) hb,gX (gX h.hK hg2 _) hg2 _⟩
 ·exact Kd.bV (Kd.kI (p:=⟨g2,1,none⟩) (Kd.kI (p:=⟨g2,0,none⟩) (Kd.lW h.hR h.h2 (by decide)) (fun _ hk=>hk.2) _) (fun _ hk=>hk.2) _) (fun _ hk=>hk.1)
 ·exact Kd.aW (Kd.dB (p:=⟨g2,1,none⟩) (Kd.dB (p:=⟨g2,0,none⟩) hN (fun k hk=>(hok k hk).2) _) (fun k hk=>(hok k hk).2) _) (fun k hk=>(hok k hk).1)
end
structure PS (w0 w:World) (g:Nat) (sl:List Int) (p:Int) (g2 g3:Nat) (AR:Option Addr) (cR:Nat) (rs:List Int) (ok:Nat→Prop) (s go n cap:Nat) (ts:List (List S58)) (c u:Value) (t:List S58) (W:World):Prop where
 wf:WF w0 w g sl p g2 g3 AR cR rs (.slice (some ⟨go,0,none⟩) n cap) W
 tg:TG W w.heap.size ok s go n cap ts u t
 hc:W.cell? ⟨go,0,none⟩=some c
 hf:W.frozen? ⟨go,0,none⟩=false
 hs:s≤W.heap.size
section
variable {w0 w W w1:World} {g:Nat} {sl:List Int} {p:Int} {g2 g3:Nat} {AR:Option Addr} {cR:Nat} {rs:List Int} {ok:Nat→Prop} {s go n cap:Nat} {ts:List (List S58)} {c u u1:Value} {t t1:List S58}
theorem PS.below (h:PS w0 w g sl p g2 g3 AR cR rs ok s go n cap ts c u t W) (hb:Below W.heap.size W w1):PS w0 w g sl p g2 g3 AR cR rs ok s go n cap ts c u t w1:=by
 have hlt:go < W.heap.size:=World.block_lt_of_cell? W _ h.hc
 exact ⟨h.wf.ext hb,aCq h.tg hb,(hb.cell (p:=⟨go,0,none⟩) hlt).trans h.hc,(hb.frozen (p:=⟨go,0,none⟩) hlt).trans h.hf,Nat.le_trans h.hs hb.size⟩
theorem PS.grown (h:PS w0 w g sl p g2 g3 AR cR rs ok s go n cap ts c u t W) (hg:W.grownBy w1 u.ownBlock) (htg:TG w1 w.heap.size ok s go n cap ts u1 t1):PS w0 w g sl p g2 g3 AR cR rs ok s go n cap ts c u1 t1 w1:=by
 have hlt:go < W.heap.size:=World.block_lt_of_cell? W _ h.hc
 obtain ⟨ok1,_,hne,hN,_⟩:=yI h.tg
 have hgo:some go≠u.ownBlock:=fun e=>hne go e.symm rfl
 have hh:w1.heap[go]?=W.heap[go]?:=hg.block go hlt hgo
 refine ⟨?_,htg,(World.cell?_of_block (a:=⟨go,0,none⟩) hh).trans h.hc,(World.frozen?_of_block (a:=⟨go,0,none⟩) hh).trans h.hf,Nat.le_trans h.hs hg.size⟩
 cases hb:u.ownBlock with
 |none=>exact h.wf.ext ⟨hg.os,hg.tape,hg.output,hg.size,fun k hk=>hg.block k hk (by rw [hb];simp)⟩
 |some b=>
  obtain ⟨cl,hcl⟩:=Kd.IB hN b hb
  exact h.wf.grown (b:=b) (by rw [← hb];exact hg) (Kd.kC hN b hb) hcl (by decide) (by decide) (by decide)
theorem PS.store (h:PS w0 w g sl p g2 g3 AR cR rs ok s go n cap ts c u t W) (hn:0 < ts.length):PS w0 w g sl p g2 g3 AR cR rs ok s go n cap ts u u t (W.setCell ⟨go,0,none⟩ u):=by
 obtain ⟨h1,h2,h3⟩:=aEr h.tg hn
 have hR:∀ {W':World},TG W' w.heap.size ok s go n cap ts u t→(∃ cl,W'.heap[go]?=some (.cells cl 33 (0,0)))∧w.heap.size≤go:=by
  intro W' hq
  obtain ⟨_,_,_,_,_,_,hR,_,_⟩:=hq
  have hgo:(Value.slice (some ⟨go,0,none⟩) n cap).ownBlock=some go:=by simp [Value.ownBlock]
  exact ⟨Kd.aAo hR go hgo,Kd.iU hR go hgo⟩
 obtain ⟨⟨cl,hcl⟩,hbase⟩:=hR h.tg
 obtain ⟨⟨cl',hcl'⟩,_⟩:=hR h1
 exact ⟨h.wf.grown h3 hbase hcl (by decide) (by decide) (by decide),h1,h2,bT hcl' 0,Nat.le_trans h.hs h3.size⟩
theorem PS.done (h:PS w0 w g sl p g2 g3 AR cR rs ok s go n cap ts u u t W) (hn:0 < ts.length) (hg2:w.heap.size≤g2) (hok:∀ k,ok k→(w.heap.size≤k∧some k≠(.slice AR rs.length cR:Value).ownBlock)∧k≠g2):
  ((W.setCell ⟨g2,0,none⟩ (.slice AR rs.length cR)).setCell ⟨g2,1,none⟩ (.slice (some ⟨go,0,none⟩) n cap)).heap[g2]?=some (.cells #[.slice AR rs.length cR,(.slice (some ⟨go,0,none⟩) n cap)] 26 (0,0))∧
  Kd.R (Kd.int .i64) 3 ((W.setCell ⟨g2,0,none⟩ (.slice AR rs.length cR)).setCell ⟨g2,1,none⟩ (.slice (some ⟨go,0,none⟩) n cap)) w.heap.size (fun k_=>(w.heap.size≤k_)) (.slice AR rs.length cR) rs∧
  Kd.N (Kd.slice 58 k58) 33 ((W.setCell ⟨g2,0,none⟩ (.slice AR rs.length cR)).setCell ⟨g2,1,none⟩ (.slice (some ⟨go,0,none⟩) n cap)) w.heap.size (fun k_=>(w.heap.size≤k_)∧some k_≠(.slice AR rs.length cR:Value).ownBlock) (.slice (some ⟨go,0,none⟩) n cap) (ts.set 0 t)∧
  aI w0 ((W.setCell ⟨g2,0,none⟩ (.slice AR rs.length cR)).setCell ⟨g2,1,none⟩ (.slice (some ⟨go,0,none⟩) n cap)) g sl p∧Below w0.heap.size w0 ((W.setCell ⟨g2,0,none⟩ (.slice AR rs.length cR)).setCell ⟨g2,1,none⟩ (.slice (some ⟨go,0,none⟩) n cap))∧aC w ((W.setCell ⟨g2,0,none⟩ (.slice AR rs.length cR)).setCell ⟨g2,1,none⟩ (.slice (some ⟨go,0,none⟩) n cap)) g none:=
 aCf h.wf hg2 hok (aEs h.tg hn h.hc)
end
theorem aHc {p:Prop} (h:Aside0 p):p:=h.out
structure FC4 (W0:World) (gb:Nat) (v b0:Bool) (W:World):Prop where
 hB:Below W0.heap.size W0 W
 hx:b0=true→W0.heap.size≤gb∧W.heap[gb]?=some (.cells #[.bool v] 4 (0,0))
structure FD4 (w0 w W0:World) (g:Nat) (sl:List Int) (p:Int) (g2 g3:Nat) (AR:Option Addr) (cR:Nat) (rs:List Int) (ok:Nat→Prop) (s go:Nat) (ts:List (List S58)) (cO:Nat) (A0:Option Addr) (c0:Nat) (tl:List S58) (A78:Option Addr) (c78:Nat) (A79:Option Addr) (c79:Nat) (b7 b8 b10:Bool) (W:World):Prop where
 ps:PS w0 w g sl p g2 g3 AR cR rs ok s go ts.length cO ts (cond b10 (.slice A79 (tl.length + 1) c79) (.slice A0 tl.length c0)) (cond b8 (.slice A79 (tl.length + 1) c79) (.slice A0 tl.length c0)) (cond b8 (tl ++ [(⟨9,0,0,⟨0,0,[]⟩,[],[]⟩:S58)]) tl) W
 h78:b7=true→b8=false→Kd.N k58 58 W W0.heap.size (fun q=>W0.heap.size≤q) (.slice A78 1 c78) [(⟨9,0,0,⟨0,0,[]⟩,[],[]⟩:S58)]
 hu:∀ q,((.slice A0 tl.length c0):Value).ownBlock=some q→q < W0.heap.size
 hW:W0.heap.size≤W.heap.size
def aC4 (W0:World) (g g2 g3:Nat) (AR:Option Addr) (cR:Nat) (rs:List Int) (go:Nat) (ts:List (List S58)) (cO:Nat) (pk:Int) (gb:Nat) (v:Bool) (b0 b1 b2 b3:Bool):Act:=
 { tmps:=#[(.pointer (some ⟨g,0,none⟩)),undef,(.pointer (some ⟨g2,0,none⟩)),(.pointer (some ⟨g3,0,none⟩)),(.pointer (some ⟨g,0,none⟩)),(.agg #[(.slice AR rs.length cR),(.slice (some ⟨go,0,none⟩) ts.length cO)]),(.pointer (some ⟨g,0,none⟩)),(.int .i64 pk),(.bool false),(.bool false),undef,undef,undef,undef,undef,undef,undef,undef,undef,undef,(.bool false),(.bool false),undef,undef,undef,undef,undef,undef,undef,undef,undef,undef,undef,undef,(.bool false),(.bool false),undef,undef,(.bool false),(.bool false),undef,undef,undef,undef,undef,undef,undef,undef,undef,undef,undef,undef,undef,undef,undef,undef,undef,(.bool true),(.bool true),cond b0 (.pointer (some ⟨gb,0,none⟩)) undef,cond b3 (.bool v) undef,undef,undef,undef,undef,undef,undef,undef,undef,undef,undef,undef,undef,undef,undef,undef,undef,undef,undef,undef,undef,undef],defers:=[] }
def LC4 (W0:World) (g g2 g3:Nat) (AR:Option Addr) (cR:Nat) (rs:List Int) (go:Nat) (ts:List (List S58)) (cO:Nat) (pk:Int) (b0 b1 b2 b3:Bool) (a:Act) (W:World):Prop:=
 ∃ (gb:Nat) (v:Bool),a=aC4 W0 g g2 g3 AR cR rs go ts cO pk gb v b0 b1 b2 b3∧FC4 W0 gb v b0 W
def aD4 (w0 w W0:World) (g:Nat) (sl:List Int) (p:Int) (g2 g3:Nat) (AR:Option Addr) (cR:Nat) (rs:List Int) (ok:Nat→Prop) (s go:Nat) (ts:List (List S58)) (cO:Nat) (pk:Int) (gb:Nat) (A0:Option Addr) (c0:Nat) (tl:List S58) (A78:Option Addr) (c78:Nat) (A79:Option Addr) (c79:Nat) (b0 b1 b2 b3 b4 b5 b6 b7 b8 b9 b10:Bool):Act:=
 { tmps:=#[(.pointer (some ⟨g,0,none⟩)),undef,(.pointer (some ⟨g2,0,none⟩)),(.pointer (some ⟨g3,0,none⟩)),(.pointer (some ⟨g,0,none⟩)),(.agg #[(.slice AR rs.length cR),(.slice (some ⟨go,0,none⟩) ts.length cO)]),(.pointer (some ⟨g,0,none⟩)),(.int .i64 pk),(.bool false),(.bool false),undef,undef,undef,undef,undef,undef,undef,undef,undef,undef,(.bool false),(.bool false),undef,undef,undef,undef,undef,undef,undef,undef,undef,undef,undef,undef,(.bool false),(.bool false),undef,undef,(.bool false),(.bool false),undef,undef,undef,undef,undef,undef,undef,undef,undef,undef,undef,undef,undef,undef,undef,undef,undef,(.bool true),(.bool true),(.pointer (some ⟨gb,0,none⟩)),(.bool false),undef,undef,undef,undef,undef,undef,undef,undef,undef,undef,cond b0 (.pointer (some ⟨g3,1,none⟩)) undef,cond b1 (.slice (some ⟨go,0,none⟩) ts.length cO) undef,cond b2 (.pointer (some ⟨g3,1,none⟩)) undef,cond b3 (.slice (some ⟨go,0,none⟩) ts.length cO) undef,cond b4 (.pointer (some ⟨go,0,none⟩)) undef,cond b5 (.slice A0 tl.length c0) undef,cond b6 (.agg #[(.int .i64 9),(.int .i64 0),(.int .i64 0),(.int .i64 0),(.int .i64 0),(.slice none 0 0),(.slice none 0 0),(.slice none 0 0)]) undef,cond b7 (.slice A78 1 c78) undef,cond b8 (.slice A79 (tl.length + 1) c79) undef,cond b9 (.pointer (some ⟨go,0,none⟩)) undef,undef],defers:=[] }
def LD4 (w0 w W0:World) (g:Nat) (sl:List Int) (p:Int) (g2 g3:Nat) (AR:Option Addr) (cR:Nat) (rs:List Int) (ok:Nat→Prop) (s go:Nat) (ts:List (List S58)) (cO:Nat) (pk:Int) (gb:Nat) (A0:Option Addr) (c0:Nat) (tl:List S58) (b0 b1 b2 b3 b4 b5 b6 b7 b8 b9 b10:Bool) (a:Act) (W:World):Prop:=
 ∃ (A78:Option Addr) (c78:Nat) (A79:Option Addr) (c79:Nat),a=aD4 w0 w W0 g sl p g2 g3 AR cR rs ok s go ts cO pk gb A0 c0 tl A78 c78 A79 c79 b0 b1 b2 b3 b4 b5 b6 b7 b8 b9 b10∧FD4 w0 w W0 g sl p g2 g3 AR cR rs ok s go ts cO A0 c0 tl A78 c78 A79 c79 b7 b8 b10 W
theorem dD.calls (k:Nat) (g:Nat) (jj:List Int) (jW:Int) (r1:List Int) (r2:List (List (S58))) (r3:Int) (w0 w:World) (hI:aI w0 w g jj jW) (hB:Below w0.heap.size w0 w) (h:dD.f k jj jW=some (r1,r2,r3)):
  Calls Tryz.prog 17 #[.pointer (some ⟨g,0,none⟩)] w fun e w'=>∃ v0_ v1_:Value,e= .returned (.agg #[v0_,v1_])∧Kd.R (Kd.int .i64) 3 w' w.heap.size (fun k_=>(w.heap.size≤k_)) v0_ r1∧Kd.N (Kd.slice 58 k58) 33 w' w.heap.size (fun k_=>(w.heap.size≤k_)∧some k_≠(v0_:Value).ownBlock) v1_ r2∧aI w0 w' g jj r3∧Below w0.heap.size w0 w'∧aC w w' g none:=by
 have hu26:=Tryz.underlying26
 have hu58:=Tryz.underlying58
 have HI0:=am hI
 have HK:=am (aC.refl w g none)
 have HL:=am hB.size
 clear hI
 have HW0:=am hB.size
 have HB:=am hB
 clear hB
 unfold dD.f at h
 have H:=h
 clear h
 obtain ⟨⟨j9,j5,jX⟩,A2,H⟩:=bsa H
 (try dsimp only at H)
 obtain ⟨⟨jh,jv⟩,A3,H⟩:=bsa H
 (try dsimp only at H)
 have HH_:=am H
 clear H
 go_enter Tryz.func17,Tryz.ntmps17
 go_upto_region 3 with (first|((with_reducible refine cK (N:=2) rfl ?_);refine eO rfl (N:=2) rfl (cs:=#[.slice none 0 0, .slice none 0 0]) (t:=26) rn_ ?_;intro j4 hg w9 hbox hb;replace HB:=am (aA iX hb);have j8:=am (hbox);have GW479:=am ((by rw [hg];exact (aM (w:=w) (g:=g) (row:=none) fF):w.heap.size≤j4));have GE479:=am ((Nat.le_trans HW0.out (by rw [hg];exact (aM (w:=w) (g:=g) (row:=none) fF):w.heap.size≤j4):w0.heap.size≤j4));replace HK:=am (aC.trans fF (aC.of_below hb g none) (.inl rfl));have NB0_479:=am ((by rw [hg];exact Nat.ne_of_lt (aI.lt (show aI w0 _ g jj jW from fQ)):g≠j4));have ji:=am ((by rw [hg];exact Nat.ne_of_gt (aI.lt (show aI w0 _ g jj jW from fQ)):j4≠g));replace HI0:=am (aI.below fQ hb);clear hb hbox hg)|((with_reducible refine aD (f:=36) rfl ?_);refine gl_ 5 Tryz.func36 #[.pointer (some ⟨g,0,none⟩)] ?_;(with_reducible refine (bS.callsT k g jj jW j9 j5 jX w0 _ ?side1 ?side2 A2.out).mono ?_);(case side1=>exact PX);(case side2=>exact aCr);rintro e Qb ⟨zT,JI,rfl,ho0,ho1,hi,hb,hk⟩;refine ⟨_,rfl,?_⟩;have ja:=am (Kd.fG (Kd.vO (M:=fun k_=>(w.heap.size≤k_)) (Kd.bV (ok':=fun k_=>True) ho0 (fun _ hk_=>trivial)) (aM (w:=w) (g:=g) (row:=none) FJ) (fun k_ h_=>h_)) (aM (w:=w) (g:=g) (row:=none) FJ));have j6:=am (aCp (mH (ok':=fun k_=>(w.heap.size≤k_)∧some k_≠(zT:Value).ownBlock∧k_≠j4∧k_≠g) ho1 (fun k_ hk_=>⟨(Nat.le_trans (aM (w:=w) (g:=g) (row:=none) FJ) hk_.1),hk_.2,(lJ j8.out k_ hk_.1),(aI.fresh PX k_ hk_.1)⟩)) (aM (w:=w) (g:=g) (row:=none) FJ));replace j8:=am (aC.blk hk (g':=j4) (o:= .cells #[.slice none 0 0, .slice none 0 0] 26 (0,0)) (aG_ j8.out) ji.out (by simp));replace HK:=am (aC.trans FJ hk (.inl rfl));replace HB:=am (hb);replace HI0:=am (hi);(try clear hb);(try clear hk);(try clear hi);(try clear ho0);(try clear ho1))|((with_reducible refine cK (N:=3) rfl ?_);refine eO rfl (N:=3) rfl (cs:=#[.slice none 0 0, .slice none 0 0]) (t:=26) rn_ ?_;intro j3 hg Qc hbox hb;replace ja:=am (Kd.gG (aR_ ja.out) hb);replace j6:=am (xG (aBq (by (with_reducible repeat (first|apply rH|apply rM|apply rJ));exact j6.out) j3 (Nat.le_of_eq hg.symm)) hb);replace HB:=am (aA aCr hb);have j7:=am (hbox);have GW487:=am ((by rw [hg];exact (aM (w:=w) (g:=g) (row:=none) FJ):w.heap.size≤j3));have GE487:=am ((Nat.le_trans HW0.out (by rw [hg];exact (aM (w:=w) (g:=g) (row:=none) FJ):w.heap.size≤j3):w0.heap.size≤j3));replace HK:=am (aC.trans FJ (aC.of_below hb g none) (.inl rfl));have je:=am ((by rw [hg];exact Nat.ne_of_lt (CS j8.out):j4≠j3));have js:=am ((by rw [hg];exact Nat.ne_of_gt (CS j8.out):j3≠j4));replace j8:=bbP j8 hb;have NB0_487:=am ((by rw [hg];exact Nat.ne_of_lt (aI.lt (show aI w0 _ g jj jX from PX)):g≠j3));have jx:=am ((by rw [hg];exact Nat.ne_of_gt (aI.lt (show aI w0 _ g jj jX from PX)):j3≠g));replace HI0:=am (aI.below PX hb);clear hb hbox hg;obtain ⟨jb,jc,zU⟩:=Kd.eY ja.out;subst zU;have Jn:=js.out;have Jo:=je.out;have Jp:=jx.out;have Jq:=NB0_487.out;obtain ⟨qa,qb,qc,qd⟩:=iV j7.out;obtain ⟨jf,jd,zV⟩:=Kd.eF (EF j6.out);subst zV)|((with_reducible refine aD (f:=37) rfl ?_);refine gl_ 7 Tryz.func37 #[.pointer (some ⟨g,0,none⟩), .int .i64 30] ?_;(with_reducible refine (aG.calls k g jj jX 30 jh jv w0 _ ?side1 ?side2 A3.out).mono ?_);(case side1=>exact mW);(case side2=>exact rO);rintro e jI ⟨rfl,hi,hb,hk⟩;refine ⟨_,rfl,?_⟩;replace j8:=am (aC.blk hk (g':=j4) (o:= .cells #[.slice none 0 0, .slice none 0 0] 26 (0,0)) (mV (mV j8.out je.out _) je.out _) ji.out (by simp));replace ja:=am (Kd.bV (Kd.pG (aI.apart (show aI w0 _ g jj jX from mW) (gH ((Kd.bV (Kd.kI (p:=⟨j3,1,none⟩) (Kd.kI (p:=⟨j3,0,none⟩) (Kd.lW ja.out j7.out (by decide)) (fun _ hk=>hk.2) (.slice jb j9.length jc)) (fun _ hk=>hk.2) (.slice jf j5.length jd)) (fun _ h_=>h_.1)))) (by decide)) hk (fun _ h=>h.2)) (fun _ h=>h.1));replace j6:=am (mH (IE (mH (ok:=fun k_=>((((w.heap.size≤k_))∧(some k_≠(.slice jb j9.length jc:Value).ownBlock∧(k_≠j4∧k_≠g)))∧k_≠j3)) (by (with_reducible repeat (first|apply rH|apply rM|apply rJ));exact (mH (BI (p:=⟨j3,1,none⟩) (BI (p:=⟨j3,0,none⟩) (mH j6.out (fun k_ hk=>(⟨hk,hk.2⟩:_∧k_≠j3))) (fun _ hk=>hk.2) (.slice jb j9.length jc)) (fun _ hk=>hk.2) (.slice jf j5.length jd)) (fun _ h_=>h_.1))) (fun k_ hk_=>(⟨hk_,hk_.1.2.2.2⟩:_∧k_≠g))) hk (fun _ h=>h.2)) (fun _ h=>h.1));replace j7:=am (aC.blk hk (g':=j3) (o:= .cells #[.slice jb j9.length jc, .slice jf j5.length jd] 26 (0,0)) (aY (aY j7.out 0 _ rfl) 1 _ rfl) jx.out (by simp));replace HK:=am (aC.trans lI hk (.inl rfl));replace HB:=am (hb);replace HI0:=am (hi);(try clear hb);(try clear hk);(try clear hi)))
 have H:=HH_.out
 clear HH_
 by_cases c4:jh=0
 ·rw [if_pos c4] at H
  have zW:(jh == 0)=true:=beq_iff_eq.mpr c4
  have zX:(jh != 0)=false:=bne_eq_false_iff_eq.mpr c4
  clear c4
  obtain ⟨jr,hy_⟩:∃ y_:List Int,y_=(([0,5]:List Int)):=⟨_,rfl⟩
  replace H:((aG.f k jj jv 2).bind fun jM=>(if 0≤jM.1 then (if jM.1 < (jr.length:Int) then (if j9.length < 17592186044416 then (some ((j9 ++ [rd jr jM.1]),j5,jM.2)) else (none)) else (none)) else (none)))=some (r1,r2,r3):=rx_
  have jG:=am hy_
  clear hy_
  obtain ⟨⟨jw,jY⟩,A5,H⟩:=bsa H
  (try dsimp only at H)
  by_cases c6:0≤jw
  ·rw [if_pos c6] at H
   have JJ:decide (0≤jw)=true:=decide_eq_true c6
   clear c6
   by_cases c7:jw < (jr.length:Int)
   ·rw [if_pos c7] at H
    have JK:decide (jw < (jr.length:Int))=true:=decide_eq_true c7
    clear c7
    by_cases c8:j9.length < 17592186044416
    ·rw [if_pos c8] at H
     have zY:=am c8
     clear c8
     obtain ⟨jR,hy_⟩:∃ y_:List Int,y_=(j9 ++ [rd jr jw]):=⟨_,rfl⟩
     replace H:(some (jR,j5,jY))=some (r1,r2,r3):=rx_
     have qA:=am hy_
     clear hy_
     simp only [Option.some.injEq,Prod.mk.injEq] at H
     obtain ⟨rfl,rfl,rfl⟩:=H
     have jN:=am (EF j6.out)
     clear j6
     have j6:=jN
     clear jN
     try go_wp2
     have Jr:(0≤(jw:Int))=True:=eq_true (of_decide_eq_true eB)
     have Js:(jw < (jr.length:Int))=True:=eq_true (of_decide_eq_true eB)
     replace ja:=am (Kd.oC ja.out)
     replace j6:=am (Kd.rF j6.out)
     replace j8:=am (dA j8.out)
     replace j7:=am (dA j7.out)
     replace HI0:=am (aI.drew HI0.out)
     replace HK:=am (gT HK.out)
     replace HB:=am (bJ HB.out)
     refine kZ (n:=11) (S:=fun w'=>w'.cell? ⟨j3,0,none⟩=some (.slice jb j9.length jc)∧w'.cell? ⟨j3,1,none⟩=some (.slice jf j5.length jd)) (ds:=[10]) (bz 11 0) (by kernel_rfl) rfl rfl (vW j7.out) (fun hHeld=>?_);refine iA dD.aHy dD.aHo (fun HT_ HW_=>?_)
     generalize jI.drew=Qd at ja j6 j8 j7 HI0 HK HB hHeld ⊢
     refine pr_ 0 10 (bz 11 1) HT_ ?_
     refine pr_ 3 13 (bz 11 9) HT_ ?_
     refine aEe 1 11 (bz 11 11) HT_ HW_ hHeld ?_
     refine aFy (σ:=Value × Addr) 6 (bz 11 31) (fun s_=>[(12,s_.1),(14, .int .i64 jw)]) (fun s_ w'=>(w'.cell? ⟨j3,0,none⟩=some (.slice jb j9.length jc)∧w'.cell? ⟨j3,1,none⟩=some (.slice jf j5.length jd))∧(Kd.R (Kd.int .i64) 3 w' w.heap.size (fun k_=>(w.heap.size≤k_)∧some k_≠(s_.1:Value).ownBlock) (.slice jb j9.length jc) j9)∧(Kd.N (Kd.slice 58 k58) 33 w' w.heap.size (fun k_=>(w.heap.size≤k_)∧some k_≠(.slice jb j9.length jc:Value).ownBlock∧some k_≠(s_.1:Value).ownBlock∧k_≠g∧k_≠j4∧k_≠j3) (.slice jf j5.length jd) j5)∧(Kd.R (Kd.int .i64) 3 w' w.heap.size (fun k_=>(w.heap.size≤k_)∧some k_≠(.slice jb j9.length jc:Value).ownBlock) s_.1 jr)∧(∃ c_,(s_.1:Value)= .slice (some s_.2) jr.length c_)∧(w'.heap[j4]?=some (.cells #[.slice none 0 0, .slice none 0 0] 26 (0,0)))∧(w'.heap[j3]?=some (.cells #[.slice jb j9.length jc, .slice jf j5.length jd] 26 (0,0)))∧(aI w0 w' g jj jY)∧(aC w w' g none)∧(Below w0.heap.size w0 w')) ?_ ?_
     rotate_left
     ·intro hCont
      refine aHf (i:=2) (j:=4) (Ni:=some 12) (Nj:=some 14) (bz 11 15) (bz 11 27) rfl rfl rfl rfl (FB HT_.out (by kernel_rfl)) (by decide) (by decide) (fun K hK=>?_) (fun K hK=>?_)
      ·skip
       refine Kd.mR (Kd.int .i64) _ 3 rfl (N:=12) rfl (xs:=([0,5]:List Int)) (inner:=[.int .i64 0, .int .i64 5]) (ok:=fun _=>True) (okp:=fun _=>True) rn_ ?hp (fun _ hk=>hk) trivial (Below.refl _ _) (Nat.le_refl _) (by simp) ?_;(case hp=>exact (dF.one (show Kd.M (Kd.int .i64) _ _ _ 0 [.int .i64 0] from rfl) (dF.one (show Kd.M (Kd.int .i64) _ _ _ 5 [.int .i64 5] from rfl) (dF.none _ _))))
       intro jS JL ho20 hb hg_ hnew_
       clear hg_ hnew_
       (first|rw [← jG.out] at ho20|(simp only [Int.reduceToNat] at ho20;rw [← jG.out] at ho20))
       replace j6:=am (Kd.rG (aN_ j6.out) (Kd.iU ho20) hb)
       have jk:=am (Kd.fG (Kd.lT (Kd.vO (M:=fun k_=>(w.heap.size≤k_)) ho20 (aM (w:=w) (g:=g) (row:=none) lI) (fun k_ h_=>h_)) (Kd.iN (aR_ ja.out))) (aM (w:=w) (g:=g) (row:=none) lI))
       replace ja:=am (Kd.iL (aR_ ja.out) (Kd.iU ho20) hb)
       replace j8:=bbP j8 hb
       replace j7:=bbP j7 hb
       replace HK:=am (aC.trans lI (aC.of_below hb g none) (.inl rfl))
       replace HB:=am (aA rO hb)
       replace HI0:=am (aI.below mW hb)
       clear hb ho20
       obtain ⟨JM,qB,zZ⟩:=Kd.eY jk.out
       subst zZ
       obtain ⟨ado21,fo21,_⟩:=Kd.oF (Kd.eH jk.out).2.2 0 (by decide) (by rw [jG.out];simp)
       cases fo21
       refine hK.out _ _ (vW j7.out) (fun hHeld=>?_)
       clear hK K
       refine eZ (a':=?_) ?_ ?_
       rotate_left
       ·exact ap_ (N:=12)
       refine gY (i:=4) (N:=some 14) (bz 11 31) rfl rfl (eG HT_.out (by kernel_rfl)) (by decide) (fun K hK=>?_)
       refine iF Tryz.func37 (by kernel_rfl) rfl #[.pointer (some ⟨g,0,none⟩), .int .i64 2] (by rfl) rfl rfl mD ?_
       with_reducible refine (aG.calls k g jj jv 2 jw jY w0 _ ?side1 ?side2 A5.out).mono ?_
       (case side1=>exact mW)
       (case side2=>exact rO)
       rintro e Qe ⟨rfl,hi,hb,hk⟩
       refine ⟨_,rfl,?_⟩
       replace j8:=am (aC.blk hk (g':=j4) (o:= .cells #[.slice none 0 0, .slice none 0 0] 26 (0,0)) (aG_ j8.out) ji.out (by simp))
       replace ja:=am (Kd.bV (Kd.pG (aI.apart (show aI w0 _ g jj jv from mW) (aR_ ja.out) (by decide)) hk (fun _ h=>h.2)) (fun _ h=>h.1))
       replace j6:=am (Kd.aW (Kd.pF (Kd.aW (ok:=fun k_=>(((((w.heap.size≤k_))∧(some k_≠(.slice jb j9.length jc:Value).ownBlock∧(k_≠j4∧k_≠g)))∧k_≠j3)∧some k_≠(.slice (some ado21) jr.length qB:Value).ownBlock)) (aN_ j6.out) (fun k_ hk_=>(⟨hk_,hk_.1.1.2.2.2⟩:_∧k_≠g))) hk (fun _ h=>h.2)) (fun _ h=>h.1))
       replace j7:=am (aC.blk hk (g':=j3) (o:= .cells #[.slice jb j9.length jc, .slice jf j5.length jd] 26 (0,0)) (aG_ j7.out) jx.out (by simp))
       replace jk:=am (Kd.bV (Kd.pG (aI.apart (show aI w0 _ g jj jv from mW) (aR_ jk.out) (by decide)) hk (fun _ h=>h.2)) (fun _ h=>h.1))
       replace HK:=am (aC.trans lI hk (.inl rfl))
       replace HB:=am (hb)
       replace HI0:=am (hi)
       (try clear hb)
       (try clear hb2)
       (try clear hk)
       (try clear hi)
       refine hK.out _ _ (vW j7.out) (fun hHeld=>?_)
       clear hK K
       refine eZ (a':=?_) ?_ ?_
       rotate_left
       ·exact ap_ (N:=14)
       exact eZ (by simp only [vR,Act.put,List.setIfInBounds_toArray,List.set_cons_zero,List.set_cons_succ]) (hCont (.slice (some ado21) jr.length qB,ado21) _ ⟨hHeld,(gH (Kd.bV ja.out (fun _ hk=>⟨hk.1.1,hk.2⟩))),(lN (Kd.aW j6.out (fun _ hk=>⟨hk.1.1.1,⟨hk.1.1.2.1,⟨hk.2,⟨hk.1.1.2.2.2,⟨hk.1.1.2.2.1,hk.1.2⟩⟩⟩⟩⟩))),(gH (Kd.bV jk.out (fun _ hk=>⟨hk.1.1,hk.2⟩))),⟨_,rfl⟩,(aG_ j8.out),(aG_ j7.out),mW,lI,rO⟩)
      ·skip
       refine iF Tryz.func37 (by kernel_rfl) rfl #[.pointer (some ⟨g,0,none⟩), .int .i64 2] (by rfl) rfl rfl mD ?_
       with_reducible refine (aG.calls k g jj jv 2 jw jY w0 _ ?side1 ?side2 A5.out).mono ?_
       (case side1=>exact mW)
       (case side2=>exact rO)
       rintro e JL ⟨rfl,hi,hb,hk⟩
       refine ⟨_,rfl,?_⟩
       replace j8:=am (aC.blk hk (g':=j4) (o:= .cells #[.slice none 0 0, .slice none 0 0] 26 (0,0)) (aG_ j8.out) ji.out (by simp))
       replace ja:=am (Kd.bV (Kd.pG (aI.apart (show aI w0 _ g jj jv from mW) (aR_ ja.out) (by decide)) hk (fun _ h=>h.2)) (fun _ h=>h.1))
       replace j6:=am (Kd.aW (Kd.pF (Kd.aW (ok:=fun k_=>((((w.heap.size≤k_))∧(some k_≠(.slice jb j9.length jc:Value).ownBlock∧(k_≠j4∧k_≠g)))∧k_≠j3)) (aN_ j6.out) (fun k_ hk_=>(⟨hk_,hk_.1.2.2.2⟩:_∧k_≠g))) hk (fun _ h=>h.2)) (fun _ h=>h.1))
       replace j7:=am (aC.blk hk (g':=j3) (o:= .cells #[.slice jb j9.length jc, .slice jf j5.length jd] 26 (0,0)) (aG_ j7.out) jx.out (by simp))
       replace HK:=am (aC.trans lI hk (.inl rfl))
       replace HB:=am (hb)
       replace HI0:=am (hi)
       (try clear hb)
       (try clear hb2)
       (try clear hk)
       (try clear hi)
       refine hK.out _ _ (vW j7.out) (fun hHeld=>?_)
       clear hK K
       refine eZ (a':=?_) ?_ ?_
       rotate_left
       ·exact ap_ (N:=14)
       refine gY (i:=2) (N:=some 12) (bz 11 31) rfl rfl (eG HT_.out (by kernel_rfl)) (by decide) (fun K hK=>?_)
       refine Kd.mR (Kd.int .i64) _ 3 rfl (N:=12) rfl (xs:=([0,5]:List Int)) (inner:=[.int .i64 0, .int .i64 5]) (ok:=fun _=>True) (okp:=fun _=>True) rn_ ?hp (fun _ hk=>hk) trivial (Below.refl _ _) (Nat.le_refl _) (by simp) ?_;(case hp=>exact (dF.one (show Kd.M (Kd.int .i64) _ _ _ 0 [.int .i64 0] from rfl) (dF.one (show Kd.M (Kd.int .i64) _ _ _ 5 [.int .i64 5] from rfl) (dF.none _ _))))
       intro jS Qf ho21 hb hg_ hnew_
       clear hg_ hnew_
       (first|rw [← jG.out] at ho21|(simp only [Int.reduceToNat] at ho21;rw [← jG.out] at ho21))
       replace j6:=am (Kd.rG (aN_ j6.out) (Kd.iU ho21) hb)
       have jk:=am (Kd.fG (Kd.lT (Kd.vO (M:=fun k_=>(w.heap.size≤k_)) ho21 (aM (w:=w) (g:=g) (row:=none) lI) (fun k_ h_=>h_)) (Kd.iN (aR_ ja.out))) (aM (w:=w) (g:=g) (row:=none) lI))
       replace ja:=am (Kd.iL (aR_ ja.out) (Kd.iU ho21) hb)
       replace j8:=bbP j8 hb
       replace j7:=bbP j7 hb
       replace HK:=am (aC.trans lI (aC.of_below hb g none) (.inl rfl))
       replace HB:=am (aA rO hb)
       replace HI0:=am (aI.below mW hb)
       clear hb ho21
       obtain ⟨JN,J0,J1⟩:=Kd.eY jk.out
       subst J1
       obtain ⟨ado22,fo22,_⟩:=Kd.oF (Kd.eH jk.out).2.2 0 (by decide) (by rw [jG.out];simp)
       cases fo22
       refine hK.out _ _ (vW j7.out) (fun hHeld=>?_)
       clear hK K
       refine eZ (a':=?_) ?_ ?_
       rotate_left
       ·exact ap_ (N:=12)
       exact eZ (by simp only [vR,Act.put,List.setIfInBounds_toArray,List.set_cons_zero,List.set_cons_succ]) (hCont (.slice (some ado22) jr.length J0,ado22) _ ⟨hHeld,(gH (Kd.bV ja.out (fun _ hk=>⟨hk.1.1,hk.2⟩))),(lN (Kd.aW j6.out (fun _ hk=>⟨hk.1.1.1,⟨hk.1.1.2.1,⟨hk.2,⟨hk.1.1.2.2.2,⟨hk.1.1.2.2.1,hk.1.2⟩⟩⟩⟩⟩))),(gH (Kd.bV jk.out (fun _ hk=>⟨hk.1.1,hk.2⟩))),⟨_,rfl⟩,(aG_ j8.out),(aG_ j7.out),mW,lI,rO⟩)
     rintro ⟨jS,adz_v491⟩ q9 ⟨hS_,h0_,h1_,h2_,h3_,h4_,h5_,h6_,h7_,h8_⟩
     replace ja:Aside0 (Kd.R (Kd.int .i64) 3 q9 w.heap.size (fun k_=>(w.heap.size≤k_)∧some k_≠(jS:Value).ownBlock) (.slice jb j9.length jc) j9):=⟨h0_⟩
     replace j6:Aside0 (Kd.N (Kd.slice 58 k58) 33 q9 w.heap.size (fun k_=>(w.heap.size≤k_)∧some k_≠(.slice jb j9.length jc:Value).ownBlock∧some k_≠(jS:Value).ownBlock∧k_≠g∧k_≠j4∧k_≠j3) (.slice jf j5.length jd) j5):=⟨h1_⟩
     have jk:Aside0 (Kd.R (Kd.int .i64) 3 q9 w.heap.size (fun k_=>(w.heap.size≤k_)∧some k_≠(.slice jb j9.length jc:Value).ownBlock) jS jr):=⟨h2_⟩
     have HA_HO492:Aside0 (∃ c_,(jS:Value)= .slice (some adz_v491) jr.length c_):=⟨h3_⟩
     replace j8:Aside0 (q9.heap[j4]?=some (.cells #[.slice none 0 0, .slice none 0 0] 26 (0,0))):=⟨h4_⟩
     replace j7:Aside0 (q9.heap[j3]?=some (.cells #[.slice jb j9.length jc, .slice jf j5.length jd] 26 (0,0))):=⟨h5_⟩
     replace HI0:Aside0 (aI w0 q9 g jj jY):=⟨h6_⟩
     replace HK:Aside0 (aC w q9 g none):=⟨h7_⟩
     replace HB:Aside0 (Below w0.heap.size w0 q9):=⟨h8_⟩
     clear h0_ h1_ h2_ h3_ h4_ h5_ h6_ h7_ h8_
     have hHeld:q9.cell? ⟨j3,0,none⟩=some (.slice jb j9.length jc)∧q9.cell? ⟨j3,1,none⟩=some (.slice jf j5.length jd):=hS_
     obtain ⟨qC,J2⟩:=HA_HO492.out
     clear HA_HO492
     subst J2
     refine eZ (a':=?_) ?_ ?_
     rotate_left
     ·simp only [vR,Act.put,List.setIfInBounds_toArray,List.set_cons_zero,List.set_cons_succ]
      rfl
     refine pr_ 5 15 (bz 11 63) HT_ ?_
     refine gY (i:=6) (N:=some 16) (bz 11 127) rfl rfl (eG HT_.out (by kernel_rfl)) (by decide) (fun K hK=>?_)
     (have J3:0≤(jw:Int):=of_decide_eq_true eB;have J4:jw < (jr.length:Int):=of_decide_eq_true eB;obtain ⟨qD,J5,qe⟩:=Kd.oF (Kd.eH jk.out).2.2 jw J3 J4;obtain rfl:adz_v491=qD:=(by injection J5))
     refine sK (w1:=?_) (v:=?_) (by rfl) rfl ?_ ?_
     rotate_left 2
     ·go_simp
      constructor
      ·rfl
      ·rfl
     clear qe
     refine hK.out _ _ (vW j7.out) (fun hHeld=>?_)
     clear hK K
     refine eZ (a':=?_) ?_ ?_
     rotate_left
     ·exact ap_ (N:=16)
     refine gY (i:=7) (N:=some 17) (bz 11 255) rfl rfl (eG HT_.out (by kernel_rfl)) (by decide) (fun K hK=>?_)
     refine sK (w1:=?_) (v:=?_) (by rfl) rfl ?_ ?_
     rotate_left 2
     ·go_simp
      constructor
      ·rfl
      ·rfl
     refine hK.out _ _ (vW (dP j7.out _)) (fun hHeld=>?_)
     clear hK K
     refine eZ (a':=?_) ?_ ?_
     rotate_left
     ·exact ap_ (N:=17)
     refine gY (i:=8) (N:=some 18) (bz 11 511) rfl rfl (eG HT_.out (by kernel_rfl)) (by decide) (fun K hK=>?_)
     refine Kd.lM (Kd.int .i64) w.heap.size (by rfl) (.tmp 11) (.tmp 17) 23 3 (.int .i64 0) 8 rfl Tryz.underlying23 info3 rfl (by decide) (by omega) (.slice jb j9.length jc) j9 (rd jr jw) [.int .i64 (rd jr jw)] (fun k_=>(w.heap.size≤k_)∧some k_≠(.slice (some adz_v491) jr.length qC:Value).ownBlock) (fun _=>False) rfl rfl ?aP (fun _ hk=>hk.elim) ?aF ?aO (Below.refl _ _) ?aS ?aL ?_
     (case aP=>exact rfl)
     (case aF=>exact (fun k_ hk=>⟨(Nat.le_trans (aM (w:=w) (g:=g) (row:=none) lI) hk),Kd.fresh' (Kd.iN (aR_ jk.out)) k_ hk⟩))
     (case aO=>exact (aR_ ja.out))
     (case aS=>exact (aM (w:=w) (g:=g) (row:=none) lI))
     (case aL=>have:=zY.out;omega)
     intro JO JP ho hb hg hat
     rw [← qA.out] at ho
     replace j8:=am (dZ (g:=j4) (o:= .cells #[.slice none 0 0, .slice none 0 0] 26 (0,0)) (aG_ j8.out) hg (Kd.kT ja.out j8.out (by decide)))
     replace j6:=am (Kd.IU (ok:=(fun k_=>(w.heap.size≤k_)∧some k_≠(.slice (some adz_v491) jr.length qC:Value).ownBlock∧k_≠g∧k_≠j4∧k_≠j3)) (lN (Kd.aW j6.out (fun _ hk=>⟨⟨hk.1,⟨hk.2.2.1,⟨hk.2.2.2.1,⟨hk.2.2.2.2.1,hk.2.2.2.2.2⟩⟩⟩⟩,hk.2.1⟩))) hg hat)
     replace j7:=am (dZ (g:=j3) (o:= .cells #[.slice jb j9.length jc, .slice jf j5.length jd] 26 (0,0)) (aG_ j7.out) hg (Kd.kT ja.out j7.out (by decide)))
     replace jk:=am (Kd.iM (ok:=(fun k_=>(w.heap.size≤k_))) (aR_ jk.out) hg hat)
     replace HB:=am (nS rO HL.out hb)
     replace HI0:=am (aI.grown mW hg (aI.own_ne HI0.out ja.out (by decide)))
     replace HK:=am (aC.trans lI (aC.fV hg g) (Kd.OI ja.out))
     have qm:=am (ho)
     clear ja
     clear ho hb hg hat
     obtain ⟨jZ,q2,qE⟩:=Kd.eY qm.out
     (first|subst qE|(injection qE with f1_ f2_ f3_;have f4_:=f1_.symm;have f5_:=f3_.symm;clear f1_ f2_ f3_;subst f4_;subst f5_))
     refine hK.out _ _ (vW j7.out) (fun hHeld=>?_)
     clear hK K
     refine eZ (a':=?_) ?_ ?_
     rotate_left
     ·exact ap_ (N:=18)
     refine pr_ 9 19 (bz 11 1023) HT_ ?_
     refine NQ (i:=10) (N:=none) (bz 11 2047) rfl rfl (eG HT_.out (by kernel_rfl)) (by decide) (fun K hK=>?_)
     have JQ:JP.cell? ⟨j3,0,none⟩=some (.slice jb j9.length jc):=(aN j7.out 0).trans rfl
     have hfs27:=bT j7.out 0
     have hns27_0:=je.out
     have hms27_0:=js.out
     refine xZ (w1:=?_) (by rfl) rfl ?_ ?_
     rotate_left
     ·go_simp
      rfl
     refine hK.out _ _ ?_
     clear hK K
     refine nA (kS HT_.out (by kernel_rfl)) ?_
     obtain ⟨zh,zi,zj,zk⟩:=iV j7.out
     have Jt:=ji.out
     have Ju:=NB0_479.out
     obtain ⟨zl,zm,zn,zo⟩:=iV j8.out
     try go_wp2
     refine bodyPost_ret (results_cell_row rfl _ _ j4 26 #[.slice jZ jR.length q2, .slice jf j5.length jd] (0,0) _ rfl (aY (aY (mV j8.out je.out _) 0 _ rfl) 1 _ rfl) Tryz.underlying26 rfl (by kernel_rfl)) rfl ?_
     exact ⟨_,_,gN,gH (Kd.bV (Kd.kI (p:=⟨j4,1,none⟩) (Kd.kI (p:=⟨j4,0,none⟩) (Kd.kI (p:=⟨j3,0,none⟩) (Kd.lW (Kd.lW qm.out j7.out (by decide)) j8.out (by decide)) (fun _ hk=>hk.1.2) (.slice jZ jR.length q2)) (fun _ hk=>hk.2) (.slice jZ jR.length q2)) (fun _ hk=>hk.2) (.slice jf j5.length jd)) (fun _ hk=>hk.1.1.1)),lN (Kd.aW (Kd.dB (p:=⟨j4,1,none⟩) (Kd.dB (p:=⟨j4,0,none⟩) (Kd.dB (p:=⟨j3,0,none⟩) (Kd.aW (Kd.aW j6.out (fun k_ hk=>(⟨hk,hk.1.2.2.2.2⟩:_∧k_≠j3))) (fun k_ hk=>(⟨hk,hk.1.1.2.2.2.1⟩:_∧k_≠j4))) (fun _ hk=>hk.1.2) (.slice jZ jR.length q2)) (fun _ hk=>hk.2) (.slice jZ jR.length q2)) (fun _ hk=>hk.2) (.slice jf j5.length jd)) (fun _ hk=>⟨hk.1.1.1.1,hk.1.1.2⟩)),mW,rO,lI⟩
    rw [if_neg c8] at H
    exact absurd H (by simp)
   rw [if_neg c7] at H
   exact absurd H (by simp)
  rw [if_neg c6] at H
  exact absurd H (by simp)
 rw [if_neg c4] at H
 have zW:(jh == 0)=false:=beq_eq_false_iff_ne.mpr c4
 have zX:(jh != 0)=true:=bne_iff_ne.mpr c4
 by_cases qt:jh=1
 ·rw [if_pos qt] at H
  have qF:(jh == 1)=true:=beq_iff_eq.mpr qt
  have qG:(jh != 1)=false:=bne_eq_false_iff_eq.mpr qt
  clear qt
  obtain ⟨⟨jJ,jK,jL,qu⟩,JR,H⟩:=bsa H
  (try dsimp only at H)
  obtain ⟨qf,hy_⟩:∃ y_:List (S58),y_=(([(⟨4,0,(j9.length:Int),(⟨jJ,jK,jL⟩:S56),([]:List (S58)),([]:List (S58))⟩:S58)]:List (S58))):=⟨_,rfl⟩
  replace H:(if j5.length < 5864062014805 then (some (j9,(j5 ++ [qf]),qu)) else (none))=some (r1,r2,r3):=rx_
  have qn:=am hy_
  clear hy_
  by_cases zp:j5.length < 5864062014805
  ·rw [if_pos zp] at H
   have qH:=am zp
   clear zp
   obtain ⟨jT,hy_⟩:∃ y_:List (List (S58)),y_=(j5 ++ [qf]):=⟨_,rfl⟩
   replace H:(some (j9,jT,qu))=some (r1,r2,r3):=rx_
   have qI:=am hy_
   clear hy_
   simp only [Option.some.injEq,Prod.mk.injEq] at H
   obtain ⟨rfl,rfl,rfl⟩:=H
   have jN:=am (EF j6.out)
   clear j6
   have j6:=jN
   clear jN
   try go_wp2
   replace ja:=am (Kd.oC ja.out)
   replace j6:=am (Kd.rF j6.out)
   replace j8:=am (dA j8.out)
   replace j7:=am (dA j7.out)
   replace HI0:=am (aI.drew HI0.out)
   replace HK:=am (gT HK.out)
   replace HB:=am (bJ HB.out)
   refine kZ (n:=13) (S:=fun w'=>w'.cell? ⟨j3,0,none⟩=some (.slice jb j9.length jc)∧w'.cell? ⟨j3,1,none⟩=some (.slice jf j5.length jd)) (ds:=[12]) (bz 13 0) (by kernel_rfl) rfl rfl (vW j7.out) (fun hHeld=>?_);refine iA dD.PN dD.CQ (fun HT_ HW_=>?_)
   generalize jI.drew=Qg at ja j6 j8 j7 HI0 HK HB hHeld ⊢
   refine pr_ 0 22 (bz 13 1) HT_ ?_
   refine pr_ 2 24 (bz 13 5) HT_ ?_
   refine pr_ 5 27 (bz 13 37) HT_ ?_
   refine aEe 1 23 (bz 13 39) HT_ HW_ hHeld ?_
   refine aEe 3 25 (bz 13 47) HT_ HW_ hHeld ?_
   refine pr_ 4 26 (bz 13 63) HT_ ?_
   refine gY (i:=6) (N:=some 28) (bz 13 127) rfl rfl (eG HT_.out (by kernel_rfl)) (by decide) (fun K hK=>?_)
   refine iF Tryz.func38 (by kernel_rfl) rfl #[.pointer (some ⟨g,0,none⟩)] (by rfl) rfl rfl mD ?_
   with_reducible refine (iE.calls k g jj jv jJ jK jL qu w0 _ ?side1 ?side2 JR.out).mono ?_
   (case side1=>exact mW)
   (case side2=>exact rO)
   rintro e JS ⟨JT,rfl,ho0,hi,hb,hk⟩
   refine ⟨_,rfl,?_⟩
   have jO:=am (Kd.eU (Kd.aW (ok':=fun k_=>(w.heap.size≤k_)∧some k_≠(.slice jb j9.length jc:Value).ownBlock∧some k_≠(.slice jf j5.length jd:Value).ownBlock∧k_≠j4∧k_≠j3∧k_≠g) (Kd.R_N (Kd.oI ho0)) (fun k_ hk_=>⟨(Nat.le_trans (aM (w:=w) (g:=g) (row:=none) lI) hk_.2.1),(Kd.fresh' (Kd.iN (aR_ ja.out)) k_ hk_.2.1),(Kd.fresh' (Kd.uG (aN_ j6.out)) k_ hk_.2.1),(lJ j8.out k_ hk_.2.1),(lJ j7.out k_ hk_.2.1),(aI.fresh mW k_ hk_.2.1)⟩)) (aM (w:=w) (g:=g) (row:=none) lI))
   replace j8:=am (aC.blk hk (g':=j4) (o:= .cells #[.slice none 0 0, .slice none 0 0] 26 (0,0)) (aG_ j8.out) ji.out (by simp))
   replace ja:=am (Kd.bV (Kd.pG (aI.apart (show aI w0 _ g jj jv from mW) (aR_ ja.out) (by decide)) hk (fun _ h=>h.2)) (fun _ h=>h.1))
   replace j6:=am (Kd.aW (Kd.uH (Kd.wE (Kd.aW (ok:=fun k_=>((((w.heap.size≤k_))∧(some k_≠(.slice jb j9.length jc:Value).ownBlock∧(k_≠j4∧k_≠g)))∧k_≠j3)) (aN_ j6.out) (fun k_ hk_=>(⟨hk_,hk_.1.2.2.2⟩:_∧k_≠g))) hk) (by first|exact Kd.kC ho0|exact Kd.kC (Kd.R_N ho0))) (fun _ h_=>h_.1))
   replace j7:=am (aC.blk hk (g':=j3) (o:= .cells #[.slice jb j9.length jc, .slice jf j5.length jd] 26 (0,0)) (aG_ j7.out) jx.out (by simp))
   replace HK:=am (aC.trans lI hk (.inl rfl))
   replace HB:=am (hb)
   replace HI0:=am (hi)
   (try clear hb)
   (try clear hb2)
   (try clear hk)
   (try clear hi)
   (try clear ho0)
   obtain ⟨qJ,qK,qL⟩:=Kd.eF jO.out
   (first|subst qL|(injection qL with f1_ f2_ f3_;have f4_:=f1_.symm;have f5_:=f3_.symm;clear f1_ f2_ f3_;subst f4_;subst f5_))
   refine hK.out _ _ (vW j7.out) (fun hHeld=>?_)
   clear hK K
   refine eZ (a':=?_) ?_ ?_
   rotate_left
   ·exact ap_ (N:=28)
   refine pr_ 7 29 (bz 13 255) HT_ ?_
   refine gY (i:=8) (N:=some 30) (bz 13 511) rfl rfl (eG HT_.out (by kernel_rfl)) (by decide) (fun K hK=>?_)
   refine Kd.rZ k58 _ 58 rfl (N':=30) rfl (xs:=([(⟨4,0,(j9.length:Int),(⟨jJ,jK,jL⟩:S56),([]:List (S58)),([]:List (S58))⟩:S58)]:List (S58))) (inner:=[.int .i64 4, .int .i64 0, .int .i64 (j9.length:Int), .int .i64 jJ, .int .i64 jK, .slice qJ jL.length qK, .slice none 0 0, .slice none 0 0]) (ok:=(fun k_=>(w.heap.size≤k_)∧some k_≠(.slice jb j9.length jc:Value).ownBlock∧some k_≠(.slice jf j5.length jd:Value).ownBlock∧k_≠j4∧k_≠j3∧k_≠g)) (okp:=(fun k_=>(w.heap.size≤k_)∧some k_≠(.slice jb j9.length jc:Value).ownBlock∧some k_≠(.slice jf j5.length jd:Value).ownBlock∧k_≠j4∧k_≠j3∧k_≠g)) rn_ ?hp (fun _ hk=>hk) ((show ∀ k_,JS.heap.size≤k_→(fun k_=>(w.heap.size≤k_)∧some k_≠(.slice jb j9.length jc:Value).ownBlock∧some k_≠(.slice jf j5.length jd:Value).ownBlock∧k_≠j4∧k_≠j3∧k_≠g) k_ from fun k_ hk=>⟨(Nat.le_trans (aM (w:=w) (g:=g) (row:=none) lI) hk),Kd.fresh' (Kd.iN (aR_ ja.out)) k_ hk,Kd.fresh' (Kd.uG (aN_ j6.out)) k_ hk,lJ j8.out k_ hk,lJ j7.out k_ hk,aI.fresh mW k_ hk⟩) _ (Nat.le_refl _)) (Below.refl _ _) (Nat.le_refl _) (by simp) ?_;(case hp=>exact (dF.c8 (show Kd.FK k58 _ _ (⟨4,0,(j9.length:Int),(⟨jJ,jK,jL⟩:S56),([]:List (S58)),([]:List (S58))⟩:S58) [.int .i64 4, .int .i64 0, .int .i64 (j9.length:Int), .int .i64 jJ, .int .i64 jK, .slice qJ jL.length qK, .slice none 0 0, .slice none 0 0] from (nU _ _ (⟨4,0,(j9.length:Int),(⟨jJ,jK,jL⟩:S56),([]:List (S58)),([]:List (S58))⟩:S58) (Kd.eP (Kd.aW (ok':=(fun k_=>(w.heap.size≤k_)∧some k_≠(.slice jb j9.length jc:Value).ownBlock∧some k_≠(.slice jf j5.length jd:Value).ownBlock∧k_≠j4∧k_≠j3∧k_≠g)) (jO.out) (fun k_ hk=>⟨hk.1,⟨hk.2.1,⟨hk.2.2.1,⟨hk.2.2.2.1,⟨hk.2.2.2.2.1,hk.2.2.2.2.2⟩⟩⟩⟩⟩))).2.1 (Kd.N_F (Kd.aW (ok':=(fun k_=>(w.heap.size≤k_)∧some k_≠(.slice jb j9.length jc:Value).ownBlock∧some k_≠(.slice jf j5.length jd:Value).ownBlock∧k_≠j4∧k_≠j3∧k_≠g)) (jO.out) (fun k_ hk=>⟨hk.1,⟨hk.2.1,⟨hk.2.2.1,⟨hk.2.2.2.1,⟨hk.2.2.2.2.1,hk.2.2.2.2.2⟩⟩⟩⟩⟩))) (Nat.le_refl _) (Kd.nN _ _ _) (Nat.le_refl _) (Kd.nN _ _ _))) (dF.none _ _)))
   intro JU Qh ho47 hb hg_ hnew_
   clear hg_ hnew_
   (first|rw [← qn.out] at ho47|(simp only [Int.reduceToNat] at ho47;rw [← qn.out] at ho47))
   replace ja:=am (Kd.gG (aR_ ja.out) hb)
   replace j6:=am (Kd.rG (aN_ j6.out) (Kd.kC ho47) hb)
   have jP:=am (Kd.eU ho47 (aM (w:=w) (g:=g) (row:=none) lI))
   replace j8:=bbP j8 hb
   replace j7:=bbP j7 hb
   replace HK:=am (aC.trans lI (aC.of_below hb g none) (.inl rfl))
   replace HB:=am (aA rO hb)
   replace HI0:=am (aI.below mW hb)
   clear jO
   clear hb ho47
   obtain ⟨J6,J7,qM⟩:=Kd.eF jP.out
   (first|subst qM|(injection qM with f1_ f2_ f3_;have f4_:=f1_.symm;have f5_:=f3_.symm;clear f1_ f2_ f3_;subst f4_;subst f5_))
   refine hK.out _ _ (vW j7.out) (fun hHeld=>?_)
   clear hK K
   refine eZ (a':=?_) ?_ ?_
   rotate_left
   ·exact ap_ (N:=30)
   refine gY (i:=9) (N:=some 31) (bz 13 1023) rfl rfl (eG HT_.out (by kernel_rfl)) (by decide) (fun K hK=>?_)
   refine sK (w1:=?_) (v:=?_) (by rfl) rfl ?_ ?_
   rotate_left 2
   ·go_simp
    constructor
    ·rfl
    ·rfl
   refine hK.out _ _ (vW (dP j7.out _)) (fun hHeld=>?_)
   clear hK K
   refine eZ (a':=?_) ?_ ?_
   rotate_left
   ·exact ap_ (N:=31)
   refine gY (i:=10) (N:=some 32) (bz 13 2047) rfl rfl (eG HT_.out (by kernel_rfl)) (by decide) (fun K hK=>?_)
   refine Kd.LW (Kd.slice 58 k58) w.heap.size (by rfl) (.tmp 23) (.tmp 31) 24 33 (.slice none 0 0) 24 rfl Tryz.underlying24 WH rfl (by decide) (by omega) (.slice jf j5.length jd) j5 qf [.slice J6 qf.length J7] (fun k_=>(w.heap.size≤k_)∧some k_≠(.slice jb j9.length jc:Value).ownBlock∧k_≠j4∧k_≠j3∧k_≠g) (fun k_=>((fun k_=>(w.heap.size≤k_)∧some k_≠(.slice jb j9.length jc:Value).ownBlock∧k_≠j4∧k_≠j3∧k_≠g)) k_∧some k_≠(.slice jf j5.length jd:Value).ownBlock) rfl rfl ?aP (fun _ hk=>hk) ?aF ?aO (Below.refl _ _) ?aS ?aL ?_
   (case aP=>exact (Kd.nM (Kd.eP (Kd.aW (ok':=(fun k_=>((fun k_=>(w.heap.size≤k_)∧some k_≠(.slice jb j9.length jc:Value).ownBlock∧k_≠j4∧k_≠j3∧k_≠g)) k_∧some k_≠(.slice jf j5.length jd:Value).ownBlock)) (jP.out) (fun k_ hk=>⟨⟨hk.1,⟨hk.2.1,⟨hk.2.2.2.1,⟨hk.2.2.2.2.1,hk.2.2.2.2.2⟩⟩⟩⟩,hk.2.2.1⟩))).2.1 (Kd.N_F (Kd.aW (ok':=(fun k_=>((fun k_=>(w.heap.size≤k_)∧some k_≠(.slice jb j9.length jc:Value).ownBlock∧k_≠j4∧k_≠j3∧k_≠g)) k_∧some k_≠(.slice jf j5.length jd:Value).ownBlock)) (jP.out) (fun k_ hk=>⟨⟨hk.1,⟨hk.2.1,⟨hk.2.2.2.1,⟨hk.2.2.2.2.1,hk.2.2.2.2.2⟩⟩⟩⟩,hk.2.2.1⟩)))))
   (case aF=>exact (fun k_ hk=>⟨(Nat.le_trans (aM (w:=w) (g:=g) (row:=none) lI) hk),Kd.fresh' (Kd.iN (aR_ ja.out)) k_ hk,lJ j8.out k_ hk,lJ j7.out k_ hk,aI.fresh mW k_ hk⟩))
   (case aO=>exact (lN (Kd.aW j6.out (fun _ hk=>⟨hk.1.1.1.1,⟨hk.1.1.1.2.1,⟨hk.1.1.1.2.2.1,⟨hk.1.1.2,hk.1.1.1.2.2.2⟩⟩⟩⟩))))
   (case aS=>exact (aM (w:=w) (g:=g) (row:=none) lI))
   (case aL=>have:=qH.out;omega)
   intro JV JW ho hb hg hat
   rw [← qI.out] at ho
   replace j8:=am (dZ (g:=j4) (o:= .cells #[.slice none 0 0, .slice none 0 0] 26 (0,0)) (aG_ j8.out) hg (Kd.TK j6.out j8.out (by decide)))
   replace ja:=am (Kd.IC (aR_ ja.out) (Kd.IB (aN_ j6.out)) (by decide) hg)
   replace j7:=am (dZ (g:=j3) (o:= .cells #[.slice jb j9.length jc, .slice jf j5.length jd] 26 (0,0)) (aG_ j7.out) hg (Kd.TK j6.out j7.out (by decide)))
   replace HB:=am (nS rO HL.out hb)
   replace HI0:=am (aI.grown mW hg (aI.DJ HI0.out j6.out (by decide)))
   replace HK:=am (aC.trans lI (aC.fV hg g) (Kd.HZ j6.out))
   have qo:=am (ho)
   clear j6 jP
   clear ho hb hg hat
   obtain ⟨q3,q4,qN⟩:=Kd.eF qo.out
   (first|subst qN|(injection qN with f1_ f2_ f3_;have f4_:=f1_.symm;have f5_:=f3_.symm;clear f1_ f2_ f3_;subst f4_;subst f5_))
   refine hK.out _ _ (vW j7.out) (fun hHeld=>?_)
   clear hK K
   refine eZ (a':=?_) ?_ ?_
   rotate_left
   ·exact ap_ (N:=32)
   refine pr_ 11 33 (bz 13 4095) HT_ ?_
   refine NQ (i:=12) (N:=none) (bz 13 8191) rfl rfl (eG HT_.out (by kernel_rfl)) (by decide) (fun K hK=>?_)
   have JX:JW.cell? ⟨j3,1,none⟩=some (.slice jf j5.length jd):=(aN j7.out 1).trans rfl
   have hfs51:=bT j7.out 1
   have hns51_0:=je.out
   have hms51_0:=js.out
   refine xZ (w1:=?_) (by rfl) rfl ?_ ?_
   rotate_left
   ·go_simp
    rfl
   refine hK.out _ _ ?_
   clear hK K
   refine nA (kS HT_.out (by kernel_rfl)) ?_
   obtain ⟨zq,zr,zs,zt⟩:=iV j7.out
   have Jv:=ji.out
   have Jw:=NB0_479.out
   obtain ⟨zu,zv,zw,zx⟩:=iV j8.out
   try go_wp2
   refine bodyPost_ret (results_cell_row rfl _ _ j4 26 #[.slice jb j9.length jc, .slice q3 jT.length q4] (0,0) _ rfl (aY (aY (mV j8.out je.out _) 0 _ rfl) 1 _ rfl) Tryz.underlying26 rfl (by kernel_rfl)) rfl ?_
   exact ⟨_,_,gN,gH (Kd.bV (Kd.kI (p:=⟨j4,1,none⟩) (Kd.kI (p:=⟨j4,0,none⟩) (Kd.kI (p:=⟨j3,1,none⟩) (Kd.lW (Kd.lW ja.out j7.out (by decide)) j8.out (by decide)) (fun _ hk=>hk.1.2) (.slice q3 jT.length q4)) (fun _ hk=>hk.2) (.slice jb j9.length jc)) (fun _ hk=>hk.2) (.slice q3 jT.length q4)) (fun _ hk=>hk.1.1.1)),lN (Kd.aW (Kd.dB (p:=⟨j4,1,none⟩) (Kd.dB (p:=⟨j4,0,none⟩) (Kd.dB (p:=⟨j3,1,none⟩) (Kd.aW (Kd.aW qo.out (fun k_ hk=>(⟨hk,hk.2.2.2.1⟩:_∧k_≠j3))) (fun k_ hk=>(⟨hk,hk.1.2.2.1⟩:_∧k_≠j4))) (fun _ hk=>hk.1.2) (.slice q3 jT.length q4)) (fun _ hk=>hk.2) (.slice jb j9.length jc)) (fun _ hk=>hk.2) (.slice q3 jT.length q4)) (fun _ hk=>⟨hk.1.1.1,hk.1.1.2.1⟩)),mW,rO,lI⟩
  rw [if_neg zp] at H
  exact absurd H (by simp)
 rw [if_neg qt] at H
 have qF:(jh == 1)=false:=beq_eq_false_iff_ne.mpr qt
 have qG:(jh != 1)=true:=bne_iff_ne.mpr qt
 by_cases qv:jh=2
 ·rw [if_pos qv] at H
  have qO:(jh == 2)=true:=beq_iff_eq.mpr qv
  have qP:(jh != 2)=false:=bne_eq_false_iff_eq.mpr qv
  clear qv
  obtain ⟨jU,hy_⟩:∃ y_:List (List (S58)),y_=(([]:List (List (S58)))):=⟨_,rfl⟩
  replace H:(some (j9,jU,jv))=some (r1,r2,r3):=rx_
  have qp:=am hy_
  clear hy_
  simp only [Option.some.injEq,Prod.mk.injEq] at H
  obtain ⟨rfl,rfl,rfl⟩:=H
  have jN:=am (EF j6.out)
  clear j6
  have j6:=jN
  clear jN
  go_wp2_with (first|((with_reducible refine cK (N:=36) rfl ?_);refine Kd.wO (Kd.slice 58 k58) _ 33 rfl (N':=36) rfl (xs:=([]:List (List (S58)))) (inner:=[]) (ok:=(fun k_=>(w.heap.size≤k_)∧some k_≠(.slice jb j9.length jc:Value).ownBlock∧some k_≠(.slice jf j5.length jd:Value).ownBlock∧k_≠j4∧k_≠j3∧k_≠g)) (okp:=(fun k_=>(w.heap.size≤k_)∧some k_≠(.slice jb j9.length jc:Value).ownBlock∧some k_≠(.slice jf j5.length jd:Value).ownBlock∧k_≠j4∧k_≠j3∧k_≠g)) rn_ ?hp (fun _ hk=>hk) ((show ∀ k_,jI.heap.size≤k_→(fun k_=>(w.heap.size≤k_)∧some k_≠(.slice jb j9.length jc:Value).ownBlock∧some k_≠(.slice jf j5.length jd:Value).ownBlock∧k_≠j4∧k_≠j3∧k_≠g) k_ from fun k_ hk=>⟨(Nat.le_trans (aM (w:=w) (g:=g) (row:=none) lI) hk),Kd.fresh' (Kd.iN (aR_ ja.out)) k_ hk,Kd.fresh' (Kd.uG (aN_ j6.out)) k_ hk,lJ j8.out k_ hk,lJ j7.out k_ hk,aI.fresh mW k_ hk⟩) _ (Nat.le_refl _)) (Below.refl _ _) (Nat.le_refl _) (by simp) ?_;(case hp=>exact (dF.none _ _));intro JY Qi ho66 hb hg_ hnew_;clear hg_ hnew_;(first|rw [← qp.out] at ho66|(simp only [Int.reduceToNat] at ho66;rw [← qp.out] at ho66));replace ja:=am (Kd.gG (aR_ ja.out) hb);replace j6:=am (Kd.rG (aN_ j6.out) (Kd.kC ho66) hb);have qq:=am (Kd.eU ho66 (aM (w:=w) (g:=g) (row:=none) lI));replace j8:=bbP j8 hb;replace j7:=bbP j7 hb;replace HK:=am (aC.trans lI (aC.of_below hb g none) (.inl rfl));replace HB:=am (aA rO hb);replace HI0:=am (aI.below mW hb);clear hb ho66;obtain ⟨q5,q6,J8⟩:=Kd.eF qq.out;subst J8;obtain ⟨zy,zz,zA,zB⟩:=iV j7.out;have Jx:=ji.out;have Jy:=NB0_479.out;obtain ⟨zC,zD,zE,zF⟩:=iV j8.out))
  refine bodyPost_ret (results_cell_row rfl _ _ j4 26 #[.slice jb j9.length jc, .slice q5 jU.length q6] (0,0) _ rfl (aY (aY (mV j8.out je.out _) 0 _ rfl) 1 _ rfl) Tryz.underlying26 rfl (by kernel_rfl)) rfl ?_
  exact ⟨_,_,gN,gH (Kd.bV (Kd.kI (p:=⟨j4,1,none⟩) (Kd.kI (p:=⟨j4,0,none⟩) (Kd.kI (p:=⟨j3,1,none⟩) (Kd.lW (Kd.lW ja.out j7.out (by decide)) j8.out (by decide)) (fun _ hk=>hk.1.2) (.slice q5 jU.length q6)) (fun _ hk=>hk.2) (.slice jb j9.length jc)) (fun _ hk=>hk.2) (.slice q5 jU.length q6)) (fun _ hk=>hk.1.1.1)),lN (Kd.aW (Kd.dB (p:=⟨j4,1,none⟩) (Kd.dB (p:=⟨j4,0,none⟩) (Kd.dB (p:=⟨j3,1,none⟩) (Kd.aW (Kd.aW qq.out (fun k_ hk=>(⟨hk,hk.2.2.2.2.1⟩:_∧k_≠j3))) (fun k_ hk=>(⟨hk,hk.1.2.2.2.1⟩:_∧k_≠j4))) (fun _ hk=>hk.1.2) (.slice q5 jU.length q6)) (fun _ hk=>hk.2) (.slice jb j9.length jc)) (fun _ hk=>hk.2) (.slice q5 jU.length q6)) (fun _ hk=>⟨hk.1.1.1,hk.1.1.2.1⟩)),mW,rO,lI⟩
 rw [if_neg qv] at H
 have qO:(jh == 2)=false:=beq_eq_false_iff_ne.mpr qv
 have qP:(jh != 2)=true:=bne_iff_ne.mpr qv
 by_cases qw:jh=3
 ·rw [if_pos qw] at H
  have qQ:(jh == 3)=true:=beq_iff_eq.mpr qw
  have qR:(jh != 3)=false:=bne_eq_false_iff_eq.mpr qw
  clear qw
  by_cases zG:0 < (j5.length:Int)
  ·rw [if_pos zG] at H
   have Jz:decide (0 < (j5.length:Int))=true:=decide_eq_true zG
   have JA:decide (0 < j5.length)=true:=decide_eq_true (by omega)
   clear zG
   obtain ⟨jH,hy_⟩:∃ y_:List (List (S58)),y_=(([fJ j5 0,fJ j5 0,fJ j5 0]:List (List (S58)))):=⟨_,rfl⟩
   replace H:(if j5.length + jH.length < 5864062014805 then (some (j9,(j5 ++ jH),jv)) else (none))=some (r1,r2,r3):=rx_
   have qr:=am hy_
   clear hy_
   by_cases zH:j5.length + jH.length < 5864062014805
   ·rw [if_pos zH] at H
    have qS:=am zH
    clear zH
    obtain ⟨jV,hy_⟩:∃ y_:List (List (S58)),y_=(j5 ++ jH):=⟨_,rfl⟩
    replace H:(some (j9,jV,jv))=some (r1,r2,r3):=rx_
    have qU:=am hy_
    clear hy_
    simp only [Option.some.injEq,Prod.mk.injEq] at H
    obtain ⟨rfl,rfl,rfl⟩:=H
    have jN:=am (EF j6.out)
    clear j6
    have j6:=jN
    clear jN
    try go_wp2
    replace ja:=am (Kd.oC ja.out)
    replace j6:=am (Kd.rF j6.out)
    replace j8:=am (dA j8.out)
    replace j7:=am (dA j7.out)
    replace HI0:=am (aI.drew HI0.out)
    replace HK:=am (gT HK.out)
    replace HB:=am (bJ HB.out)
    have qg:0≤(0:Int):=(by omega)
    have qh:0 < (j5.length:Int):=of_decide_eq_true eB
    obtain ⟨jg,jl,jm,J9,jn,hl514_0,hi514_0⟩:=uL (Kd.eP j6.out).2.2 0 qg qh
    cases J9
    obtain ⟨ce514,hce514,hMe514,hcc514⟩:=Kd.MW j6.out [] 0 qg (by first|exact qh|exact of_decide_eq_true eB|(have e_:=(Kd.eP j6.out).1;omega))
    obtain ⟨ua514_0,uc514_0,rfl,ul514_0,ge514_0⟩:=Kd.mJ hMe514
    have hv514_0:=hcc514 0 _ rfl
    rw [Nat.add_zero,show ((Kd.slice 58 k58)).sz=1 from rfl,Nat.mul_one] at hv514_0
    replace hv514_0:=Option.some.inj (hv514_0.symm.trans jn)
    injection hv514_0 with hva_ hvn_ hvc_
    rw [hva_] at ge514_0
    rw [hvc_] at ul514_0
    have jo:=am (show Kd.V k58 58 _ w.heap.size _ _ (fJ j5 0) from Kd.aBr ul514_0 ge514_0)
    clear hva_ hvn_ hvc_ ge514_0 ul514_0
    clear hcc514 hce514
    have JB:(0 < j5.length)=True:=eq_true (by omega)
    (try rw [show ((0:Int)).toNat=0 from rfl] at jn)
    (try rw [Addr.add_zero'] at jn)
    have jz:=am hi514_0
    have zI:=am hl514_0
    clear hi514_0 hl514_0
    replace qg:=eq_true qg
    replace qh:=eq_true qh
    have qi:0≤(0:Int):=(by omega)
    have qj:0 < (j5.length:Int):=of_decide_eq_true eB
    obtain ⟨qV,Ja,Jb,Jc,jt,hl515_0,hi515_0⟩:=uL (Kd.eP j6.out).2.2 0 qi qj
    obtain rfl:jg=qV:=(by injection Jc)
    obtain ⟨ce515,hce515,hMe515,hcc515⟩:=Kd.MW j6.out [] 0 qi (by first|exact qj|exact of_decide_eq_true eB|(have e_:=(Kd.eP j6.out).1;omega))
    obtain ⟨ua515_0,uc515_0,rfl,ul515_0,ge515_0⟩:=Kd.mJ hMe515
    have hv515_0:=hcc515 0 _ rfl
    rw [Nat.add_zero,show ((Kd.slice 58 k58)).sz=1 from rfl,Nat.mul_one] at hv515_0
    replace hv515_0:=Option.some.inj (hv515_0.symm.trans jt)
    injection hv515_0 with hva_ hvn_ hvc_
    rw [hva_] at ge515_0
    rw [hvc_] at ul515_0
    have jp:=am (show Kd.V k58 58 _ w.heap.size _ _ (fJ j5 0) from Kd.aBr ul515_0 ge515_0)
    clear hva_ hvn_ hvc_ ge515_0 ul515_0
    clear hcc515 hce515
    have JC:(0 < j5.length)=True:=eq_true (by omega)
    (try rw [show ((0:Int)).toNat=0 from rfl] at jt)
    (try rw [Addr.add_zero'] at jt)
    have jA:=am hi515_0
    have zJ:=am hl515_0
    clear hi515_0 hl515_0
    replace qi:=eq_true qi
    replace qj:=eq_true qj
    have ea_:=Option.some.inj (jn.symm.trans jt)
    injection ea_ with ea_ en_ ec_
    subst ea_
    subst ec_
    clear en_
    have qk:0≤(0:Int):=(by omega)
    have ql:0 < (j5.length:Int):=of_decide_eq_true eB
    obtain ⟨qW,Jd,Je,Jf,ju,hl516_0,hi516_0⟩:=uL (Kd.eP j6.out).2.2 0 qk ql
    obtain rfl:jg=qW:=(by injection Jf)
    obtain ⟨ce516,hce516,hMe516,hcc516⟩:=Kd.MW j6.out [] 0 qk (by first|exact ql|exact of_decide_eq_true eB|(have e_:=(Kd.eP j6.out).1;omega))
    obtain ⟨ua516_0,uc516_0,rfl,ul516_0,ge516_0⟩:=Kd.mJ hMe516
    have hv516_0:=hcc516 0 _ rfl
    rw [Nat.add_zero,show ((Kd.slice 58 k58)).sz=1 from rfl,Nat.mul_one] at hv516_0
    replace hv516_0:=Option.some.inj (hv516_0.symm.trans ju)
    injection hv516_0 with hva_ hvn_ hvc_
    rw [hva_] at ge516_0
    rw [hvc_] at ul516_0
    have jq:=am (show Kd.V k58 58 _ w.heap.size _ _ (fJ j5 0) from Kd.aBr ul516_0 ge516_0)
    clear hva_ hvn_ hvc_ ge516_0 ul516_0
    clear hcc516 hce516
    have JD:(0 < j5.length)=True:=eq_true (by omega)
    (try rw [show ((0:Int)).toNat=0 from rfl] at ju)
    (try rw [Addr.add_zero'] at ju)
    have jB:=am hi516_0
    have zK:=am hl516_0
    clear hi516_0 hl516_0
    replace qk:=eq_true qk
    replace ql:=eq_true ql
    have ea_:=Option.some.inj (jn.symm.trans ju)
    injection ea_ with ea_ en_ ec_
    subst ea_
    subst ec_
    clear en_
    refine kZ (n:=18) (S:=fun w'=>w'.cell? ⟨j3,0,none⟩=some (.slice jb j9.length jc)∧w'.cell? ⟨j3,1,none⟩=some (.slice (some jg) j5.length jd)∧w'.cell? jg=some (.slice jl (fJ j5 0).length jm)∧w'.cell? jg=some (.slice jl (fJ j5 0).length jm)∧w'.cell? jg=some (.slice jl (fJ j5 0).length jm)) (ds:=[15,17]) (bz 18 0) (by kernel_rfl) rfl rfl ⟨(aN j7.out 0).trans rfl,(aN j7.out 1).trans rfl,jn,jt,ju⟩ (fun hHeld=>?_);refine iA dD.aEb dD.TS (fun HT_ HW_=>?_)
    generalize jI.drew=JZ at ja j6 j8 j7 HI0 HK HB jo jp jq jz jA jB jn jt ju hHeld ⊢
    refine pr_ 0 40 (bz 18 1) HT_ ?_
    refine pr_ 2 42 (bz 18 5) HT_ ?_
    refine pr_ 6 46 (bz 18 69) HT_ ?_
    refine pr_ 10 50 (bz 18 1093) HT_ ?_
    refine aAa 1 41 (bz 18 1095) HT_ HW_ hHeld ?_
    refine aAa 3 43 (bz 18 1103) HT_ HW_ hHeld ?_
    refine pr_ 4 44 (bz 18 1119) HT_ ?_
    refine aAa 5 45 (bz 18 1151) HT_ HW_ hHeld ?_
    refine aAa 7 47 (bz 18 1279) HT_ HW_ hHeld ?_
    refine pr_ 8 48 (bz 18 1535) HT_ ?_
    refine aAa 9 49 (bz 18 2047) HT_ HW_ hHeld ?_
    refine aAa 11 51 (bz 18 4095) HT_ HW_ hHeld ?_
    refine pr_ 12 52 (bz 18 8191) HT_ ?_
    refine aAa 13 53 (bz 18 16383) HT_ HW_ hHeld ?_
    refine gY (i:=14) (N:=some 54) (bz 18 32767) rfl rfl (eG HT_.out (by kernel_rfl)) (by decide) (fun K hK=>?_)
    refine Kd.rZ (Kd.slice 58 k58) _ 33 rfl (N':=54) rfl (xs:=([fJ j5 0,fJ j5 0,fJ j5 0]:List (List (S58)))) (inner:=[.slice jl (fJ j5 0).length jm, .slice jl (fJ j5 0).length jm, .slice jl (fJ j5 0).length jm]) (ok:=(fun k_=>(w.heap.size≤k_)∧some k_≠(.slice jb j9.length jc:Value).ownBlock∧some k_≠(.slice (some jg) j5.length jd:Value).ownBlock∧k_≠j4∧k_≠j3∧k_≠g)) (okp:=(fun k_=>(w.heap.size≤k_)∧some k_≠(.slice jb j9.length jc:Value).ownBlock∧some k_≠(.slice (some jg) j5.length jd:Value).ownBlock∧k_≠j4∧k_≠j3∧k_≠g)) rn_ ?hp (fun _ hk=>hk) ((show ∀ k_,JZ.heap.size≤k_→(fun k_=>(w.heap.size≤k_)∧some k_≠(.slice jb j9.length jc:Value).ownBlock∧some k_≠(.slice (some jg) j5.length jd:Value).ownBlock∧k_≠j4∧k_≠j3∧k_≠g) k_ from fun k_ hk=>⟨(Nat.le_trans (aM (w:=w) (g:=g) (row:=none) lI) hk),Kd.fresh' (Kd.iN (aR_ ja.out)) k_ hk,Kd.fresh' (Kd.uG (aN_ j6.out)) k_ hk,lJ j8.out k_ hk,lJ j7.out k_ hk,aI.fresh mW k_ hk⟩) _ (Nat.le_refl _)) (Below.refl _ _) (Nat.le_refl _) (by simp) ?_;(case hp=>exact (dF.one (show Kd.FK (Kd.slice 58 k58) _ _ (fJ j5 0) [.slice jl (fJ j5 0).length jm] from (Kd.nM (Kd.xI (Kd.pI (ok':=(fun k_=>(w.heap.size≤k_)∧some k_≠(.slice jb j9.length jc:Value).ownBlock∧some k_≠(.slice (some jg) j5.length jd:Value).ownBlock∧k_≠j4∧k_≠j3∧k_≠g)) (jo.out) (fun k_ hk=>⟨hk.1.1.1,⟨hk.1.1.2.1,⟨hk.2,⟨hk.1.1.2.2.1,⟨hk.1.2,hk.1.1.2.2.2⟩⟩⟩⟩⟩))).2.1 (Kd.V_F (Kd.pI (ok':=(fun k_=>(w.heap.size≤k_)∧some k_≠(.slice jb j9.length jc:Value).ownBlock∧some k_≠(.slice (some jg) j5.length jd:Value).ownBlock∧k_≠j4∧k_≠j3∧k_≠g)) (jo.out) (fun k_ hk=>⟨hk.1.1.1,⟨hk.1.1.2.1,⟨hk.2,⟨hk.1.1.2.2.1,⟨hk.1.2,hk.1.1.2.2.2⟩⟩⟩⟩⟩))))) (dF.one (show Kd.FK (Kd.slice 58 k58) _ _ (fJ j5 0) [.slice jl (fJ j5 0).length jm] from (Kd.nM (Kd.xI (Kd.pI (ok':=(fun k_=>(w.heap.size≤k_)∧some k_≠(.slice jb j9.length jc:Value).ownBlock∧some k_≠(.slice (some jg) j5.length jd:Value).ownBlock∧k_≠j4∧k_≠j3∧k_≠g)) (jp.out) (fun k_ hk=>⟨hk.1.1.1,⟨hk.1.1.2.1,⟨hk.2,⟨hk.1.1.2.2.1,⟨hk.1.2,hk.1.1.2.2.2⟩⟩⟩⟩⟩))).2.1 (Kd.V_F (Kd.pI (ok':=(fun k_=>(w.heap.size≤k_)∧some k_≠(.slice jb j9.length jc:Value).ownBlock∧some k_≠(.slice (some jg) j5.length jd:Value).ownBlock∧k_≠j4∧k_≠j3∧k_≠g)) (jp.out) (fun k_ hk=>⟨hk.1.1.1,⟨hk.1.1.2.1,⟨hk.2,⟨hk.1.1.2.2.1,⟨hk.1.2,hk.1.1.2.2.2⟩⟩⟩⟩⟩))))) (dF.one (show Kd.FK (Kd.slice 58 k58) _ _ (fJ j5 0) [.slice jl (fJ j5 0).length jm] from (Kd.nM (Kd.xI (Kd.pI (ok':=(fun k_=>(w.heap.size≤k_)∧some k_≠(.slice jb j9.length jc:Value).ownBlock∧some k_≠(.slice (some jg) j5.length jd:Value).ownBlock∧k_≠j4∧k_≠j3∧k_≠g)) (jq.out) (fun k_ hk=>⟨hk.1.1.1,⟨hk.1.1.2.1,⟨hk.2,⟨hk.1.1.2.2.1,⟨hk.1.2,hk.1.1.2.2.2⟩⟩⟩⟩⟩))).2.1 (Kd.V_F (Kd.pI (ok':=(fun k_=>(w.heap.size≤k_)∧some k_≠(.slice jb j9.length jc:Value).ownBlock∧some k_≠(.slice (some jg) j5.length jd:Value).ownBlock∧k_≠j4∧k_≠j3∧k_≠g)) (jq.out) (fun k_ hk=>⟨hk.1.1.1,⟨hk.1.1.2.1,⟨hk.2,⟨hk.1.1.2.2.1,⟨hk.1.2,hk.1.1.2.2.2⟩⟩⟩⟩⟩))))) (dF.none _ _)))))
    intro Q0 Qj ho85 hb hg_ hnew_
    have HS2_:=(hb.cell (World.block_lt_of_cell? _ _ (hHeld.2.2.1))).trans (hHeld.2.2.1)
    have HS3_:=(hb.cell (World.block_lt_of_cell? _ _ (hHeld.2.2.2.1))).trans (hHeld.2.2.2.1)
    have HS4_:=(hb.cell (World.block_lt_of_cell? _ _ (hHeld.2.2.2.2))).trans (hHeld.2.2.2.2)
    clear hg_ hnew_
    (first|rw [← qr.out] at ho85|(simp only [Int.reduceToNat] at ho85;rw [← qr.out] at ho85))
    replace ja:=am (Kd.gG (aR_ ja.out) hb)
    replace j6:=am (Kd.rG (aN_ j6.out) (Kd.kC ho85) hb)
    replace jo:=am (Kd.xH (by (with_reducible repeat (first|apply Kd.lX|apply Kd.lY|apply Kd.nG));exact jo.out) (Kd.kC ho85) hb)
    replace jp:=am (Kd.xH (by (with_reducible repeat (first|apply Kd.lX|apply Kd.lY|apply Kd.nG));exact jp.out) (Kd.kC ho85) hb)
    replace jq:=am (Kd.xH (by (with_reducible repeat (first|apply Kd.lX|apply Kd.lY|apply Kd.nG));exact jq.out) (Kd.kC ho85) hb)
    have jQ:=am (Kd.eU ho85 (aM (w:=w) (g:=g) (row:=none) lI))
    replace j8:=bbP j8 hb
    replace j7:=bbP j7 hb
    replace jz:=am (Kd.aT (by repeat (first|(with_reducible exact jz.out)|(with_reducible refine Kd.iY ?_ _)|(with_reducible refine Kd.iR ?_ _)|(with_reducible refine Kd.kW ?_)|exact jz.out)) hb)
    replace jA:=am (Kd.aT (by repeat (first|(with_reducible exact jA.out)|(with_reducible refine Kd.iY ?_ _)|(with_reducible refine Kd.iR ?_ _)|(with_reducible refine Kd.kW ?_)|exact jA.out)) hb)
    replace jB:=am (Kd.aT (by repeat (first|(with_reducible exact jB.out)|(with_reducible refine Kd.iY ?_ _)|(with_reducible refine Kd.iR ?_ _)|(with_reducible refine Kd.kW ?_)|exact jB.out)) hb)
    replace HK:=am (aC.trans lI (aC.of_below hb g none) (.inl rfl))
    replace HB:=am (aA rO hb)
    replace HI0:=am (aI.below mW hb)
    clear hb ho85
    obtain ⟨qx,qy,qX⟩:=Kd.eF jQ.out
    (first|subst qX|(injection qX with f1_ f2_ f3_;have f4_:=f1_.symm;have f5_:=f3_.symm;clear f1_ f2_ f3_;subst f4_;subst f5_))
    refine hK.out _ _ ⟨(aN j7.out 0).trans rfl,(aN j7.out 1).trans rfl,HS2_,HS3_,HS4_⟩ (fun hHeld=>?_)
    clear hK K
    refine eZ (a':=?_) ?_ ?_
    rotate_left
    ·exact ap_ (N:=54)
    refine NQ (i:=15) (N:=some 55) (bz 18 65535) rfl rfl (eG HT_.out (by kernel_rfl)) (by decide) (fun K hK=>?_)
    refine Kd.pE (Kd.slice 58 k58) w.heap.size (by rfl) (.tmp 41) (.tmp 54) 24 33 (.slice none 0 0) 24 rfl Tryz.underlying24 WH rfl (by decide) (by omega) (.slice (some jg) j5.length jd) j5 jH _ _ _ (fun k_=>(w.heap.size≤k_)∧some k_≠(.slice jb j9.length jc:Value).ownBlock∧k_≠j4∧k_≠j3∧k_≠g) (fun k_=>((fun k_=>(w.heap.size≤k_)∧some k_≠(.slice jb j9.length jc:Value).ownBlock∧k_≠j4∧k_≠j3∧k_≠g)) k_∧some k_≠(.slice (some jg) j5.length jd:Value).ownBlock) rfl rfl ?aO ?aR (fun _ hk=>hk) ?aF (Below.refl _ _) ?aS ?aL ?_
    (case aR=>exact (by skip;exact Kd.N_F (Kd.aW (ok':=(fun k_=>((fun k_=>(w.heap.size≤k_)∧some k_≠(.slice jb j9.length jc:Value).ownBlock∧k_≠j4∧k_≠j3∧k_≠g)) k_∧some k_≠(.slice (some jg) j5.length jd:Value).ownBlock)) (jQ.out) (fun k_ hk=>⟨⟨hk.1,⟨hk.2.1,⟨hk.2.2.2.1,⟨hk.2.2.2.2.1,hk.2.2.2.2.2⟩⟩⟩⟩,hk.2.2.1⟩))))
    (case aF=>exact (fun k_ hk=>⟨(Nat.le_trans (aM (w:=w) (g:=g) (row:=none) lI) hk),Kd.fresh' (Kd.iN (aR_ ja.out)) k_ hk,lJ j8.out k_ hk,lJ j7.out k_ hk,aI.fresh mW k_ hk⟩))
    (case aO=>exact (lN (Kd.aW j6.out (fun _ hk=>⟨hk.1.1.1,⟨hk.1.1.2.1,⟨hk.1.1.2.2.1,⟨hk.1.2,hk.1.1.2.2.2⟩⟩⟩⟩))))
    (case aS=>exact (aM (w:=w) (g:=g) (row:=none) lI))
    (case aL=>have:=qS.out;omega)
    intro Q1 Q2 ho hb hg hat
    rw [← qU.out] at ho
    replace j8:=am (dZ (g:=j4) (o:= .cells #[.slice none 0 0, .slice none 0 0] 26 (0,0)) (aG_ j8.out) hg (Kd.TK j6.out j8.out (by decide)))
    replace ja:=am (Kd.IC (aR_ ja.out) (Kd.IB (aN_ j6.out)) (by decide) hg)
    replace j7:=am (dZ (g:=j3) (o:= .cells #[.slice jb j9.length jc, .slice (some jg) j5.length jd] 26 (0,0)) (aG_ j7.out) hg (Kd.TK j6.out j7.out (by decide)))
    replace jo:=am (Kd.IZ (ok:=(fun k_=>(w.heap.size≤k_)∧some k_≠(.slice jb j9.length jc:Value).ownBlock∧some k_≠(.slice qx jH.length qy:Value).ownBlock∧k_≠j4∧k_≠g∧k_≠j3)) (by (with_reducible repeat (first|apply Kd.lX|apply Kd.lY|apply Kd.nG));exact Kd.pI jo.out (fun _ hk=>⟨⟨hk.1.1.1.1,⟨hk.1.1.1.2.1,⟨hk.2,⟨hk.1.1.1.2.2.1,⟨hk.1.1.1.2.2.2,hk.1.1.2⟩⟩⟩⟩⟩,hk.1.2⟩)) hg hat)
    replace jp:=am (Kd.IZ (ok:=(fun k_=>(w.heap.size≤k_)∧some k_≠(.slice jb j9.length jc:Value).ownBlock∧some k_≠(.slice qx jH.length qy:Value).ownBlock∧k_≠j4∧k_≠g∧k_≠j3)) (by (with_reducible repeat (first|apply Kd.lX|apply Kd.lY|apply Kd.nG));exact Kd.pI jp.out (fun _ hk=>⟨⟨hk.1.1.1.1,⟨hk.1.1.1.2.1,⟨hk.2,⟨hk.1.1.1.2.2.1,⟨hk.1.1.1.2.2.2,hk.1.1.2⟩⟩⟩⟩⟩,hk.1.2⟩)) hg hat)
    replace jq:=am (Kd.IZ (ok:=(fun k_=>(w.heap.size≤k_)∧some k_≠(.slice jb j9.length jc:Value).ownBlock∧some k_≠(.slice qx jH.length qy:Value).ownBlock∧k_≠j4∧k_≠g∧k_≠j3)) (by (with_reducible repeat (first|apply Kd.lX|apply Kd.lY|apply Kd.nG));exact Kd.pI jq.out (fun _ hk=>⟨⟨hk.1.1.1.1,⟨hk.1.1.1.2.1,⟨hk.2,⟨hk.1.1.1.2.2.1,⟨hk.1.1.1.2.2.2,hk.1.1.2⟩⟩⟩⟩⟩,hk.1.2⟩)) hg hat)
    replace jQ:=am (Kd.IU (ok:=(fun k_=>(w.heap.size≤k_)∧some k_≠(.slice jb j9.length jc:Value).ownBlock∧k_≠j4∧k_≠j3∧k_≠g)) (lN (Kd.aW jQ.out (fun _ hk=>⟨⟨hk.1,⟨hk.2.1,⟨hk.2.2.2.1,⟨hk.2.2.2.2.1,hk.2.2.2.2.2⟩⟩⟩⟩,hk.2.2.1⟩))) hg hat)
    replace HB:=am (nS rO HL.out hb)
    replace HI0:=am (aI.grown mW hg (aI.DJ HI0.out j6.out (by decide)))
    replace HK:=am (aC.trans lI (aC.fV hg g) (Kd.HZ j6.out))
    have qs:=am (ho)
    clear j6
    clear ho hb hg hat
    obtain ⟨q7,q8,qY⟩:=Kd.eF qs.out
    (first|subst qY|(injection qY with f1_ f2_ f3_;have f4_:=f1_.symm;have f5_:=f3_.symm;clear f1_ f2_ f3_;subst f4_;subst f5_))
    refine hK.out _ _ ?_
    clear hK K
    refine eZ (a':=?_) ?_ ?_
    rotate_left
    ·exact ap_ (N:=55)
    refine pr_ 16 56 (bz 18 131071) HT_ ?_
    refine NQ (i:=17) (N:=none) (bz 18 262143) rfl rfl (eG HT_.out (by kernel_rfl)) (by decide) (fun K hK=>?_)
    have Q3:Q2.cell? ⟨j3,1,none⟩=some (.slice (some jg) j5.length jd):=(aN j7.out 1).trans rfl
    have hfs89:=bT j7.out 1
    have hns89_0:=je.out
    have hms89_0:=js.out
    refine xZ (w1:=?_) (by rfl) rfl ?_ ?_
    rotate_left
    ·go_simp
     rfl
    refine hK.out _ _ ?_
    clear hK K
    refine nA (kS HT_.out (by kernel_rfl)) ?_
    obtain ⟨zL,zM,zN,zO⟩:=iV j7.out
    have JE:=ji.out
    have JF:=NB0_479.out
    obtain ⟨zP,zQ,zR,zS⟩:=iV j8.out
    try go_wp2
    refine bodyPost_ret (results_cell_row rfl _ _ j4 26 #[.slice jb j9.length jc, .slice q7 jV.length q8] (0,0) _ rfl (aY (aY (mV j8.out je.out _) 0 _ rfl) 1 _ rfl) Tryz.underlying26 rfl (by kernel_rfl)) rfl ?_
    exact ⟨_,_,gN,gH (Kd.bV (Kd.kI (p:=⟨j4,1,none⟩) (Kd.kI (p:=⟨j4,0,none⟩) (Kd.kI (p:=⟨j3,1,none⟩) (Kd.lW (Kd.lW ja.out j7.out (by decide)) j8.out (by decide)) (fun _ hk=>hk.1.2) (.slice q7 jV.length q8)) (fun _ hk=>hk.2) (.slice jb j9.length jc)) (fun _ hk=>hk.2) (.slice q7 jV.length q8)) (fun _ hk=>hk.1.1.1)),lN (Kd.aW (Kd.dB (p:=⟨j4,1,none⟩) (Kd.dB (p:=⟨j4,0,none⟩) (Kd.dB (p:=⟨j3,1,none⟩) (Kd.aW (Kd.aW qs.out (fun k_ hk=>(⟨hk,hk.2.2.2.1⟩:_∧k_≠j3))) (fun k_ hk=>(⟨hk,hk.1.2.2.1⟩:_∧k_≠j4))) (fun _ hk=>hk.1.2) (.slice q7 jV.length q8)) (fun _ hk=>hk.2) (.slice jb j9.length jc)) (fun _ hk=>hk.2) (.slice q7 jV.length q8)) (fun _ hk=>⟨hk.1.1.1,hk.1.1.2.1⟩)),mW,rO,lI⟩
   rw [if_neg zH] at H
   exact absurd H (by simp)
  rw [if_neg zG] at H
  exact absurd H (by simp)
 rw [if_neg qw] at H
 have qQ:(jh == 3)=false:=beq_eq_false_iff_ne.mpr qw
 have qR:(jh != 3)=true:=bne_iff_ne.mpr qw
 by_cases qz:jh=4
 ·rw [if_pos qz] at H
  have qZ:(jh == 4)=true:=beq_iff_eq.mpr qz
  have z0:(jh != 4)=false:=bne_eq_false_iff_eq.mpr qz
  clear qz
  by_cases cA:0 < (j5.length:Int)
  case neg=>
   rw [if_neg cA] at H
   exact absurd H (by simp)
  rw [if_pos cA] at H
  by_cases cB:(fJ j5 0).length + 1 < 1256584717458
  case neg=>
   rw [if_neg cB] at H
   exact absurd H (by simp)
  rw [if_pos cB] at H
  have LEN:=am cA
  have LENN:Aside0 (0 < j5.length):=⟨by omega⟩
  have CAP:=am cB
  clear cA cB
  simp only [Option.some.injEq,Prod.mk.injEq] at H
  obtain ⟨rfl,rfl,rfl⟩:=H
  go_upto_region 12 with fail
  obtain ⟨go_,eA⟩:∃ go_,jf=some ⟨go_,0,none⟩:=by
   obtain ⟨g_,cap_,e_,_⟩:=Kd.TJ (EF j6.out) LENN.out
   injection e_ with e_
   exact ⟨g_,e_⟩
  subst eA
  have HTF:Aside0 (TF jI w.heap.size (fun x=>(w.heap.size≤x∧some x≠(Value.slice jb j9.length jc).ownBlock∧x≠j4∧x≠g)∧x≠j3) (.slice (some ⟨go_,0,none⟩) j5.length jd) j5):=j6
  obtain ⟨ok_,hok_⟩:∃ ok_:Nat→Prop,ok_=(fun x=>(w.heap.size≤x∧some x≠(Value.slice jb j9.length jc).ownBlock∧x≠j4∧x≠g)∧x≠j3):=⟨_,rfl⟩
  rw [← hok_] at HTF
  have hfr_:∀ k,jI.heap.size≤k→ok_ k∧k≠go_:=by
   intro k hk
   have h1:=Kd.iN ja.out
   have h2:=lK j8.out
   have h3:=lK j7.out
   have h4:=aI.lt HI0.out
   have h5:=Kd.uG (EF HTF.out) go_ (by simp [Value.ownBlock])
   have h6:=HK.out.1
   rw [hok_]
   exact ⟨⟨⟨by omega,fun e=>by have:=h1 k e.symm;omega,by omega,by omega⟩,by omega⟩,by omega⟩
  obtain ⟨A0,c0,hx_,hf_,htg_⟩:=aHm HTF.out LENN.out hfr_
  have HS0:=am (Nat.le_refl jI.heap.size)
  have CAP2:Aside0 ((j5.getD 0 []).length + 1 < 1256584717458):=CAP
  have RT:Aside0 (fJ j5 0=j5.getD 0 []):=⟨rfl⟩
  clear CAP
  generalize j5.getD 0 []=tl at hx_ hf_ htg_ CAP2 RT
  have CAP:=CAP2
  clear CAP2
  have HP:Aside0 (PS w0 w g jj jv j4 j3 jb jc j9 ok_ jI.heap.size go_ j5.length jd j5 (.slice A0 tl.length c0) (.slice A0 tl.length c0) tl jI):=⟨⟨⟨HL.out,HI0.out,HB.out,HK.out,j8.out,j7.out,Kd.bV ja.out (fun _ h_=>h_.1)⟩,htg_,hx_,hf_,Nat.le_refl _⟩⟩
  have HOK:Aside0 (∀ k,ok_ k→(w.heap.size≤k∧some k≠(.slice jb j9.length jc:Value).ownBlock)∧k≠j4):=⟨by rw [hok_];exact fun k hk=>⟨⟨hk.1.1,hk.1.2.1⟩,hk.1.2.2.1⟩⟩
  have HUL:Aside0 (∀ q,((.slice A0 tl.length c0):Value).ownBlock=some q→q < jI.heap.size):=⟨by obtain ⟨_,_,_,hN_,_⟩:=yI htg_;exact Kd.uG hN_⟩
  clear hfr_ hx_ hf_ htg_ HTF hok_ j6 ja HK HB HI0 j8 j7
  try clear qa
  try clear qb
  try clear qc
  try clear qd
  refine wp_region_any (by kernel_rfl) ?_
  have HPd:=am (HP.out.below (pJ (Below.refl _ _)))
  show wpAny _ _ _ _ _ _ _ jI.drew
  have HS1:Aside0 (jI.heap.size≤jI.drew.heap.size):=⟨Nat.le_refl _⟩
  generalize jI.heap.size=s_ at *
  clear HP
  generalize jI.drew=W0 at HPd HS1 ⊢
  refine OQ (n:=4) (T:=(true,[([],[]),([0],[0]),([0],[0]),([0,0,1,2],[0])])) rfl (by kernel_rfl) (by decide) (fun b a W=>LC4 W0 g j4 j3 jb jc j9 go_ j5 jd jh (b 0) (b 1) (b 2) (b 3) a W) ?hstep ?hdone _ _ ?hstart
  case hstart=>exact ⟨0,false,rfl,⟨Below.refl _ _,fun e=>Bool.noConfusion e⟩⟩
  case hstep=>
   intro i b a W hi hbi hneed hcl hI
   have hcase:i=0∨i=1∨i=2∨i=3:=by omega
   rcases hcase with rfl|rfl|rfl|rfl
   ·
    have z1:=zz_ (fun h=>hcl 1 _ h rfl 0 (by decide)) hbi
    have z2:=zz_ (fun h=>hcl 2 _ h rfl 0 (by decide)) hbi
    have z3:=zz_ (fun h=>hcl 3 _ h rfl 0 (by decide)) hbi
    simp only [hbi,z1,z2,z3] at hI
    obtain ⟨gb,v,rfl,h⟩:=hI
    refine wpOp_step rfl (fun K' hK'=>?_)
    simp (decide:=true) only [if_true,if_false,reduceIte,z1,z2,z3] at hK'
    refine RB ?hg (N:=59) ?hd (cs:=#[.bool false]) (t:=4) ?hr ?_
    case hd=>rfl
    case hg=>rfl
    case hr=>first|(go_simp;done)|(go_simp;rfl)
    intro gb' hgb W' hbox hb
    have hlt:=h.hB.size
    refine hK' _ _ (⟨gb',false,?_,⟨aA h.hB hb,fun _=>⟨by omega,hbox⟩⟩⟩)
    show Act.put _ (some 59) _=_
    simp only [aC4,Act.put,List.setIfInBounds_toArray,List.set_cons_zero,List.set_cons_succ]
    rfl
   ·
    have hn_:=hneed _ rfl
    have n0:=hn_ 0 (by decide)
    have z3:=zz_ (fun h=>hcl 3 _ h rfl 1 (by decide)) hbi
    simp only [hbi,n0,z3] at hI
    obtain ⟨gb,v,rfl,h⟩:=hI
    refine wpOp_step rfl (fun K' hK'=>?_)
    simp (decide:=true) only [if_true,if_false,reduceIte,n0,z3] at hK'
    obtain ⟨hgb,hbx⟩:=h.hx rfl
    have q0:W.cell? ⟨gb,0,none⟩=some (.bool v):=aN hbx 0
    have f0:=bT hbx 0
    refine xZ (w1:=W.setCell ⟨gb,0,none⟩ (.bool true)) (by rfl) rfl ?_ ?_
    ·(try simp only [aC4,cond_true,cond_false])
     go_simp
     (try rfl)
    refine hK' _ _ (⟨gb,true,rfl,⟨below_set (j:=0) (v:= .bool true) h.hB hgb,fun _=>⟨hgb,aY (cs':=#[.bool true]) hbx 0 (.bool true) rfl⟩⟩⟩)
   ·
    have hn_:=hneed _ rfl
    have n0:=hn_ 0 (by decide)
    have z3:=zz_ (fun h=>hcl 3 _ h rfl 2 (by decide)) hbi
    simp only [hbi,n0,z3] at hI
    obtain ⟨gb,v,rfl,h⟩:=hI
    refine wpOp_step rfl (fun K' hK'=>?_)
    simp (decide:=true) only [if_true,if_false,reduceIte,n0,z3] at hK'
    obtain ⟨hgb,hbx⟩:=h.hx rfl
    have q0:W.cell? ⟨gb,0,none⟩=some (.bool v):=aN hbx 0
    have f0:=bT hbx 0
    refine xZ (w1:=W.setCell ⟨gb,0,none⟩ (.bool false)) (by rfl) rfl ?_ ?_
    ·(try simp only [aC4,cond_true,cond_false])
     go_simp
     (try rfl)
    refine hK' _ _ (⟨gb,false,rfl,⟨below_set (j:=0) (v:= .bool false) h.hB hgb,fun _=>⟨hgb,aY (cs':=#[.bool false]) hbx 0 (.bool false) rfl⟩⟩⟩)
   ·
    have hn_:=hneed _ rfl
    have n0:=hn_ 0 (by decide)
    have n1:=hn_ 1 (by decide)
    have n2:=hn_ 2 (by decide)
    simp only [hbi,n0,n1,n2] at hI
    obtain ⟨gb,v,rfl,h⟩:=hI
    refine wpOp_step rfl (fun K' hK'=>?_)
    simp (decide:=true) only [if_true,if_false,reduceIte,n0,n1,n2] at hK'
    obtain ⟨hgb,hbx⟩:=h.hx rfl
    have q0:W.cell? ⟨gb,0,none⟩=some (.bool v):=aN hbx 0
    have f0:=bT hbx 0
    refine iW (W:=W) (w1:=W) (v:=?_) (by rfl) ?_ ?_
    rotate_left
    ·(try simp only [aC4,cond_true,cond_false])
     go_simp
     first|with_reducible rfl|rfl
    refine hK' _ _ (⟨gb,v,?_,h⟩)
    show Act.put _ (some 60) _=_
    simp only [aC4,Act.put,List.setIfInBounds_toArray,List.set_cons_zero,List.set_cons_succ,fI,fO]
    rfl
  case hdone=>
   intro b a W1 hall hI
   replace hI:LC4 W0 g j4 j3 jb jc j9 go_ j5 jd jh (b 0) (b 1) (b 2) (b 3) a W1:=hI
   rw [hall 0 (by decide),hall 1 (by decide),hall 2 (by decide),hall 3 (by decide)] at hI
   obtain ⟨gb,v,rfl,h⟩:=hI
   simp only [aC4,cond_true]
   have HP:=am (HPd.out.below h.hB)
   have HS2:Aside0 (s_≤W1.heap.size):=⟨Nat.le_trans HS1.out h.hB.size⟩
   have HU2:Aside0 (∀ q,((.slice A0 tl.length c0):Value).ownBlock=some q→q < W1.heap.size):=⟨fun q hq=>Nat.lt_of_lt_of_le (HUL.out q hq) HS2.out⟩
   clear h hall HPd HUL HS1
   cases v with
   |true=>
    have p3_1:W1.cell? ⟨j3,1,none⟩=some (.slice (some ⟨go_,0,none⟩) j5.length jd):=aN HP.out.wf.h3 1
    have po_0:W1.cell? ⟨go_,0,none⟩=some (.slice A0 tl.length c0):=HP.out.hc
    have fo_0:=HP.out.hf
    have Q4:decide (0 < (j5.length:Int))=true:=decide_eq_true LEN.out
    have Q5:decide (0 < j5.length)=true:=decide_eq_true LENN.out
    have Jg:(0 < j5.length)=True:=eq_true LENN.out
    go_upto_region 14 with (first|((with_reducible refine cK (N:=67) rfl ?_);refine Kd.wO k58 W1.heap.size 58 rfl (N':=67) rfl (w0:=W1) (xs:=[(⟨0,0,0,⟨0,0,[]⟩,[],[]⟩:S58)]) (inner:=[(.int .i64 0),(.int .i64 0),(.int .i64 0),(.int .i64 0),(.int .i64 0),(.slice none 0 0),(.slice none 0 0),(.slice none 0 0)]) (ok:=fun q=>W1.heap.size≤q) (okp:=fun _=>False) ?hr ?hp (fun _ hq=>hq.elim) (Nat.le_refl _) (Below.refl _ _) (Nat.le_refl _) (by simp) ?_;(case hr=>first|(go_simp;done)|(go_simp;rfl));(case hp=>exact dF.c8 (show Kd.FK k58 _ _ (⟨0,0,0,⟨0,0,[]⟩,[],[]⟩:S58) [(.int .i64 0),(.int .i64 0),(.int .i64 0),(.int .i64 0),(.int .i64 0),(.slice none 0 0),(.slice none 0 0),(.slice none 0 0)] from nU _ _ (⟨0,0,0,⟨0,0,[]⟩,[],[]⟩:S58) (Nat.le_refl _) (Kd.nN _ _ _) (Nat.le_refl _) (Kd.nN _ _ _) (Nat.le_refl _) (Kd.nN _ _ _)) (dF.none _ _));intro Qk W2 hn hb _ _;obtain ⟨Q6,Q7,rfl⟩:=Kd.eF hn;have HN67:=am hn;have HP2:=am (HP.out.below hb);have HS3:=am hb.size;clear hn hb p3_1 po_0 fo_0;have p3_1:W2.cell? ⟨j3,1,none⟩=some (.slice (some ⟨go_,0,none⟩) j5.length jd):=aN HP2.out.wf.h3 1;have po_0:W2.cell? ⟨go_,0,none⟩=some (.slice A0 tl.length c0):=HP2.out.hc;have fo_0:=HP2.out.hf)|((with_reducible refine cK (N:=68) rfl ?_);obtain ⟨ok1,hfr1,hne1,hN1,up1⟩:=yI HP2.out.tg;refine Kd.AB k58 (w0:=W2) w.heap.size rfl (.tmp 64) (.tmp 67) 33 58 (.agg #[(.int .i64 0),(.int .i64 0),(.int .i64 0),(.int .i64 0),(.int .i64 0),(.slice none 0 0),(.slice none 0 0),(.slice none 0 0)]) 112 rfl Tryz.underlying33 KO rfl (by decide) (by omega) (.slice A0 tl.length c0) tl [(⟨0,0,0,⟨0,0,[]⟩,[],[]⟩:S58)] Q6 1 Q7 ok1 (fun q=>W1.heap.size≤q) rfl rfl hN1 (Kd.N_F HN67.out) ?aK ?aF (Below.refl _ _) HP2.out.wf.hK.1 ?aL ?_;(case aK=>exact fun q hq=>⟨hfr1 q (Nat.le_trans HS2.out hq),fun e=>by have:=HU2.out q e.symm;omega⟩);(case aF=>exact fun q hq=>hfr1 q (Nat.le_trans HS2.out (Nat.le_trans HS3.out hq)));(case aL=>(have:=CAP.out;omega));intro Ql W3 hn hb hg hat;obtain ⟨JG,Q8,JH⟩:=Kd.eF hn;rw [List.length_append,List.length_singleton] at JH;subst JH;have HP3:=am (HP2.out.grown hg (up1 _ _ _ hg hn));clear hn hb hg hat up1 hN1 hne1 hfr1 HN67 HP p3_1 po_0 fo_0 ok1;have p3_1:W3.cell? ⟨j3,1,none⟩=some (.slice (some ⟨go_,0,none⟩) j5.length jd):=aN HP3.out.wf.h3 1;have po_0:W3.cell? ⟨go_,0,none⟩=some (.slice A0 tl.length c0):=HP3.out.hc;have fo_0:=HP3.out.hf)|fail)
    clear p3_1 po_0 fo_0
    have HP4:=am (HP3.out.store LENN.out)
    generalize W3.setCell ⟨go_,0,none⟩ (.slice JG (tl.length + 1) Q8)=W4 at HP4 ⊢
    obtain ⟨b_,eb⟩:∃ b_,JG=some ⟨b_,0,none⟩:=by
     obtain ⟨ok1,hfr1,hne1,hN1,up1⟩:=yI HP4.out.tg
     obtain ⟨g_,cap_,e_,_⟩:=Kd.TJ hN1 (by simp)
     injection e_ with e_
     exact ⟨g_,e_⟩
    subst eb
    have Q9:decide ((tl.length:Int) < (tl.length:Int) + 1)=true:=decide_eq_true (by omega)
    have Qa:(tl.length < tl.length + 1)=True:=eq_true (by omega)
    go_wp2_with (first|((with_reducible refine WC (t:=58) (p:=70) (v:= .tmp 65) rfl ?_);refine aHc ?_)|fail)
    refine ⟨?_⟩
    obtain ⟨ok1,hfr1,hne1,hN1,up1⟩:=yI HP4.out.tg
    obtain ⟨ce,hcl,Jh,hcc,Ji⟩:=Kd.OH hN1 z58 (tl.length:Int) (by omega) (by omega)
    have hcl8:ce.length=8:=hcl
    refine Kd.aEp k58 (w0:=W4) w.heap.size rfl rfl 58 (.tmp 70) (.tmp 65) rfl 58 (tl.length:Int) 0 _ (⟨9,0,0,⟨0,0,[]⟩,[],[]⟩:S58) (.agg #[(.int .i64 9),(.int .i64 0),(.int .i64 0),(.int .i64 0),(.int .i64 0),(.slice none 0 0),(.slice none 0 0),(.slice none 0 0)]) [(.int .i64 9),(.int .i64 0),(.int .i64 0),(.int .i64 0),(.int .i64 0),(.slice none 0 0),(.slice none 0 0),(.slice none 0 0)] ce ok1 (fun _=>False) rfl ?hoff rfl rfl (by kernel_rfl) ?h1 hN1 (by omega) (by omega) hcl hcc (Nat.le_refl _) ?hM (fun _ hk=>hk.elim) (Below.refl _ _) ?_
    (case hoff=>simp [show k58.sz=8 from rfl])
    (case h1=>simp [Value.oneCell'])
    (case hM=>(have e_:ce.take 0 ++ ([(.int .i64 9),(.int .i64 0),(.int .i64 0),(.int .i64 0),(.int .i64 0),(.slice none 0 0),(.slice none 0 0),(.slice none 0 0)]:List Value) ++ ce.drop (0 + ([(.int .i64 9),(.int .i64 0),(.int .i64 0),(.int .i64 0),(.int .i64 0),(.slice none 0 0),(.slice none 0 0),(.slice none 0 0)]:List Value).length)=[(.int .i64 9),(.int .i64 0),(.int .i64 0),(.int .i64 0),(.int .i64 0),(.slice none 0 0),(.slice none 0 0),(.slice none 0 0)]:=(by simp [List.drop_eq_nil_of_le (show ce.length≤8 by omega)]);rw [e_];exact nU _ _ (⟨9,0,0,⟨0,0,[]⟩,[],[]⟩:S58) (Nat.le_refl _) (Kd.nN _ _ _) (Nat.le_refl _) (Kd.nN _ _ _) (Nat.le_refl _) (Kd.nN _ _ _)))
    intro W5 hn hb hg
    have HP5:=am (HP4.out.grown hg (up1 _ _ _ hg hn))
    clear hn hb hg hcc hcl8 hcl Jh Ji up1 hN1 hne1 hfr1
    have eset:(tl ++ [(⟨0,0,0,⟨0,0,[]⟩,[],[]⟩:S58)]).set (tl.length:Int).toNat (⟨9,0,0,⟨0,0,[]⟩,[],[]⟩:S58)=tl ++ [(⟨9,0,0,⟨0,0,[]⟩,[],[]⟩:S58)]:=by simp
    rw [eset] at HP5
    clear Q4 Q5 Jg Q9 Qa eset
    have p3_0:W5.cell? ⟨j3,0,none⟩=some (.slice jb j9.length jc):=aN HP5.out.wf.h3 0
    have p3_1:W5.cell? ⟨j3,1,none⟩=some (.slice (some ⟨go_,0,none⟩) j5.length jd):=aN HP5.out.wf.h3 1
    have p2_0:W5.cell? ⟨j4,0,none⟩=some (.slice none 0 0):=aN HP5.out.wf.h2 0
    have p2_1:W5.cell? ⟨j4,1,none⟩=some (.slice none 0 0):=aN HP5.out.wf.h2 1
    have f2_0:=bT HP5.out.wf.h2 0
    have f2_1:=bT HP5.out.wf.h2 1
    go_wp2
    have hE:=HP5.out.done LENN.out GW479.out HOK.out
    rw [RT.out]
    refine bodyPost_ret (results_cell_row rfl _ _ j4 26 #[.slice jb j9.length jc, .slice (some ⟨go_,0,none⟩) j5.length jd] (0,0) _ rfl hE.1 Tryz.underlying26 rfl (by kernel_rfl)) rfl ?_
    exact ⟨_,_,rfl,hE.2.1,hE.2.2.1,hE.2.2.2.1,hE.2.2.2.2.1,hE.2.2.2.2.2⟩
   |false=>
    go_upto_region 15 with fail
    refine wp_region_any (by kernel_rfl) ?_
    have HPd:=am (HP.out.below (pJ (Below.refl _ _)))
    have HSd:Aside0 (s_≤W1.drew.heap.size):=HS2
    have HUd:Aside0 (∀ q,((.slice A0 tl.length c0):Value).ownBlock=some q→q < W1.drew.heap.size):=HU2
    show wpAny _ _ _ _ _ _ _ W1.drew
    generalize W1.drew=W0 at HPd HSd HUd ⊢
    clear HP HS2 HU2
    refine OQ (n:=11) (T:=(true,[([],[]),([0],[0]),([],[]),([2],[2]),([3],[3]),([4],[4]),([],[]),([6],[6]),([5,7],[5,7]),([1,0,1,2,3,4,5,6,7,8],[1]),([9,8,8,0,1,2,3,4,5,6,7,8],[8,9])])) rfl (by kernel_rfl) (by decide) (fun b a W=>LD4 w0 w W0 g jj jv j4 j3 jb jc j9 ok_ s_ go_ j5 jd jh gb A0 c0 tl (b 0) (b 1) (b 2) (b 3) (b 4) (b 5) (b 6) (b 7) (b 8) (b 9) (b 10) a W) ?hstep ?hdone _ _ ?hstart
    case hstart=>exact ⟨none,0,none,0,rfl,⟨HPd.out,(fun e=>Bool.noConfusion e),HUd.out,Nat.le_refl _⟩⟩
    case hstep=>
     intro i b a W hi hbi hneed hcl hI
     have hcase:i=0∨i=1∨i=2∨i=3∨i=4∨i=5∨i=6∨i=7∨i=8∨i=9∨i=10:=by omega
     rcases hcase with rfl|rfl|rfl|rfl|rfl|rfl|rfl|rfl|rfl|rfl|rfl
     ·
      have z1:=zz_ (fun h=>hcl 1 _ h rfl 0 (by decide)) hbi
      have z9:=zz_ (fun h=>hcl 9 _ h rfl 0 (by decide)) hbi
      have jy:=zz_ (fun h=>hcl 10 _ h rfl 0 (by decide)) hbi
      simp only [hbi,z1,z9,jy] at hI
      obtain ⟨jC,jD,jE,jF,rfl,h⟩:=hI
      refine wpOp_step rfl (fun K' hK'=>?_)
      simp (decide:=true) only [if_true,if_false,reduceIte,z1,z9,jy] at hK'
      refine iW (W:=W) (w1:=W) (v:=?_) (by rfl) ?_ ?_
      rotate_left
      ·(try simp only [aD4,cond_true,cond_false])
       go_simp
       first|with_reducible rfl|rfl
      refine hK' _ _ (⟨jC,jD,jE,jF,?_,h⟩)
      show Act.put _ (some 71) _=_
      simp only [aD4,Act.put,List.setIfInBounds_toArray,List.set_cons_zero,List.set_cons_succ,fI,fO]
      rfl
     ·
      have hn_:=hneed _ rfl
      have n0:=hn_ 0 (by decide)
      have z9:=zz_ (fun h=>hcl 9 _ h rfl 1 (by decide)) hbi
      have jy:=zz_ (fun h=>hcl 10 _ h rfl 1 (by decide)) hbi
      simp only [hbi,n0,z9,jy] at hI
      obtain ⟨jC,jD,jE,jF,rfl,h⟩:=hI
      refine wpOp_step rfl (fun K' hK'=>?_)
      simp (decide:=true) only [if_true,if_false,reduceIte,n0,z9,jy] at hK'
      have Jj:=h.ps.wf.h3
      have q1:W.cell? ⟨j3,1,none⟩=some (.slice (some ⟨go_,0,none⟩) j5.length jd):=aN Jj 1
      refine iW (W:=W) (w1:=W) (v:=?_) (by rfl) ?_ ?_
      rotate_left
      ·(try simp only [aD4,cond_true,cond_false])
       go_simp
       first|with_reducible rfl|rfl
      refine hK' _ _ (⟨jC,jD,jE,jF,?_,h⟩)
      show Act.put _ (some 72) _=_
      simp only [aD4,Act.put,List.setIfInBounds_toArray,List.set_cons_zero,List.set_cons_succ,fI,fO]
      rfl
     ·
      have z3:=zz_ (fun h=>hcl 3 _ h rfl 2 (by decide)) hbi
      have z4:=zz_ (fun h=>hcl 4 _ h rfl 3 (by decide)) z3
      have z5:=zz_ (fun h=>hcl 5 _ h rfl 4 (by decide)) z4
      have z8:=zz_ (fun h=>hcl 8 _ h rfl 5 (by decide)) z5
      have z9:=zz_ (fun h=>hcl 9 _ h rfl 2 (by decide)) hbi
      have jy:=zz_ (fun h=>hcl 10 _ h rfl 2 (by decide)) hbi
      simp only [hbi,z3,z4,z5,z8,z9,jy] at hI
      obtain ⟨jC,jD,jE,jF,rfl,h⟩:=hI
      refine wpOp_step rfl (fun K' hK'=>?_)
      simp (decide:=true) only [if_true,if_false,reduceIte,z3,z4,z5,z8,z9,jy] at hK'
      refine iW (W:=W) (w1:=W) (v:=?_) (by rfl) ?_ ?_
      rotate_left
      ·(try simp only [aD4,cond_true,cond_false])
       go_simp
       first|with_reducible rfl|rfl
      refine hK' _ _ (⟨jC,jD,jE,jF,?_,h⟩)
      show Act.put _ (some 73) _=_
      simp only [aD4,Act.put,List.setIfInBounds_toArray,List.set_cons_zero,List.set_cons_succ,fI,fO]
      rfl
     ·
      have hn_:=hneed _ rfl
      have n2:=hn_ 2 (by decide)
      have z4:=zz_ (fun h=>hcl 4 _ h rfl 3 (by decide)) hbi
      have z5:=zz_ (fun h=>hcl 5 _ h rfl 4 (by decide)) z4
      have z8:=zz_ (fun h=>hcl 8 _ h rfl 5 (by decide)) z5
      have z9:=zz_ (fun h=>hcl 9 _ h rfl 3 (by decide)) hbi
      have jy:=zz_ (fun h=>hcl 10 _ h rfl 3 (by decide)) hbi
      simp only [hbi,n2,z4,z5,z8,z9,jy] at hI
      obtain ⟨jC,jD,jE,jF,rfl,h⟩:=hI
      refine wpOp_step rfl (fun K' hK'=>?_)
      simp (decide:=true) only [if_true,if_false,reduceIte,n2,z4,z5,z8,z9,jy] at hK'
      have Jj:=h.ps.wf.h3
      have q1:W.cell? ⟨j3,1,none⟩=some (.slice (some ⟨go_,0,none⟩) j5.length jd):=aN Jj 1
      refine iW (W:=W) (w1:=W) (v:=?_) (by rfl) ?_ ?_
      rotate_left
      ·(try simp only [aD4,cond_true,cond_false])
       go_simp
       first|with_reducible rfl|rfl
      refine hK' _ _ (⟨jC,jD,jE,jF,?_,h⟩)
      show Act.put _ (some 74) _=_
      simp only [aD4,Act.put,List.setIfInBounds_toArray,List.set_cons_zero,List.set_cons_succ,fI,fO]
      rfl
     ·
      have hn_:=hneed _ rfl
      have n3:=hn_ 3 (by decide)
      have n2:=hcl 3 _ n3 rfl 2 (by decide)
      have z5:=zz_ (fun h=>hcl 5 _ h rfl 4 (by decide)) hbi
      have z8:=zz_ (fun h=>hcl 8 _ h rfl 5 (by decide)) z5
      have z9:=zz_ (fun h=>hcl 9 _ h rfl 4 (by decide)) hbi
      have jy:=zz_ (fun h=>hcl 10 _ h rfl 4 (by decide)) hbi
      simp only [hbi,n2,n3,z5,z8,z9,jy] at hI
      obtain ⟨jC,jD,jE,jF,rfl,h⟩:=hI
      refine wpOp_step rfl (fun K' hK'=>?_)
      simp (decide:=true) only [if_true,if_false,reduceIte,n2,n3,z5,z8,z9,jy] at hK'
      have Jg:(0 < j5.length)=True:=eq_true LENN.out
      refine iW (W:=W) (w1:=W) (v:=?_) (by rfl) ?_ ?_
      rotate_left
      ·(try simp only [aD4,cond_true,cond_false])
       go_simp
       first|with_reducible rfl|rfl
      refine hK' _ _ (⟨jC,jD,jE,jF,?_,h⟩)
      show Act.put _ (some 75) _=_
      simp only [aD4,Act.put,List.setIfInBounds_toArray,List.set_cons_zero,List.set_cons_succ,fI,fO]
      rfl
     ·
      have hn_:=hneed _ rfl
      have n4:=hn_ 4 (by decide)
      have n3:=hcl 4 _ n4 rfl 3 (by decide)
      have n2:=hcl 3 _ n3 rfl 2 (by decide)
      have z8:=zz_ (fun h=>hcl 8 _ h rfl 5 (by decide)) hbi
      have z9:=zz_ (fun h=>hcl 9 _ h rfl 5 (by decide)) hbi
      have jy:=zz_ (fun h=>hcl 10 _ h rfl 5 (by decide)) hbi
      simp only [hbi,n2,n3,n4,z8,z9,jy] at hI
      obtain ⟨jC,jD,jE,jF,rfl,h⟩:=hI
      refine wpOp_step rfl (fun K' hK'=>?_)
      simp (decide:=true) only [if_true,if_false,reduceIte,n2,n3,n4,z8,z9,jy] at hK'
      have q0:W.cell? ⟨go_,0,none⟩=some (.slice A0 tl.length c0):=h.ps.hc
      refine iW (W:=W) (w1:=W) (v:=?_) (by rfl) ?_ ?_
      rotate_left
      ·(try simp only [aD4,cond_true,cond_false])
       go_simp
       first|with_reducible rfl|rfl
      refine hK' _ _ (⟨jC,jD,jE,jF,?_,h⟩)
      show Act.put _ (some 76) _=_
      simp only [aD4,Act.put,List.setIfInBounds_toArray,List.set_cons_zero,List.set_cons_succ,fI,fO]
      rfl
     ·
      have z7:=zz_ (fun h=>hcl 7 _ h rfl 6 (by decide)) hbi
      have z8:=zz_ (fun h=>hcl 8 _ h rfl 7 (by decide)) z7
      have z9:=zz_ (fun h=>hcl 9 _ h rfl 6 (by decide)) hbi
      have jy:=zz_ (fun h=>hcl 10 _ h rfl 6 (by decide)) hbi
      simp only [hbi,z7,z8,z9,jy] at hI
      obtain ⟨jC,jD,jE,jF,rfl,h⟩:=hI
      refine wpOp_step rfl (fun K' hK'=>?_)
      simp (decide:=true) only [if_true,if_false,reduceIte,z7,z8,z9,jy] at hK'
      refine iW (W:=W) (w1:=W) (v:=(.agg #[(.int .i64 9),(.int .i64 0),(.int .i64 0),(.int .i64 0),(.int .i64 0),(.slice none 0 0),(.slice none 0 0),(.slice none 0 0)])) (by rfl) ?_ ?_
      ·(try simp only [aD4,cond_true,cond_false])
       go_simp
       (try rfl)
      refine hK' _ _ (⟨jC,jD,jE,jF,?_,h⟩)
      show Act.put _ (some 77) _=_
      simp only [aD4,Act.put,List.setIfInBounds_toArray,List.set_cons_zero,List.set_cons_succ,fI,fO]
      rfl
     ·
      have hn_:=hneed _ rfl
      have n6:=hn_ 6 (by decide)
      have z8:=zz_ (fun h=>hcl 8 _ h rfl 7 (by decide)) hbi
      have z9:=zz_ (fun h=>hcl 9 _ h rfl 7 (by decide)) hbi
      have jy:=zz_ (fun h=>hcl 10 _ h rfl 7 (by decide)) hbi
      simp only [hbi,n6,z8,z9,jy] at hI
      obtain ⟨jC,jD,jE,jF,rfl,h⟩:=hI
      refine wpOp_step rfl (fun K' hK'=>?_)
      simp (decide:=true) only [if_true,if_false,reduceIte,n6,z8,z9,jy] at hK'
      have hs:=h.ps.hs
      refine Kd.rZ k58 W.heap.size 58 ?hg (N':=78) ?hd (w0:=W) (xs:=[(⟨9,0,0,⟨0,0,[]⟩,[],[]⟩:S58)]) (inner:=[(.int .i64 9),(.int .i64 0),(.int .i64 0),(.int .i64 0),(.int .i64 0),(.slice none 0 0),(.slice none 0 0),(.slice none 0 0)]) (ok:=fun q=>W0.heap.size≤q) (okp:=fun _=>False) ?hr ?hp (fun _ hq=>hq.elim) ?hf (Below.refl _ _) (Nat.le_refl _) (by simp) ?_
      case hd=>rfl
      case hg=>rfl
      case hr=>(try simp only [aD4,cond_true,cond_false]);first|(go_simp;done)|(go_simp;rfl)
      case hp=>exact dF.c8 (show Kd.FK k58 _ _ (⟨9,0,0,⟨0,0,[]⟩,[],[]⟩:S58) [(.int .i64 9),(.int .i64 0),(.int .i64 0),(.int .i64 0),(.int .i64 0),(.slice none 0 0),(.slice none 0 0),(.slice none 0 0)] from nU _ _ (⟨9,0,0,⟨0,0,[]⟩,[],[]⟩:S58) (Nat.le_refl _) (Kd.nN _ _ _) (Nat.le_refl _) (Kd.nN _ _ _) (Nat.le_refl _) (Kd.nN _ _ _)) (dF.none _ _)
      case hf=>exact h.hW
      intro v1 W' hn hb hg _
      obtain ⟨A,c,rfl⟩:=Kd.eF hn
      refine hK' _ _ (⟨A,c,jE,jF,?_,⟨h.ps.below hb,fun _ _=>Kd.eU hn h.hW,h.hu,Nat.le_trans h.hW hb.size⟩⟩)
      show Act.put _ (some 78) _=_
      simp only [aD4,Act.put,List.setIfInBounds_toArray,List.set_cons_zero,List.set_cons_succ]
      rfl
     ·
      have hn_:=hneed _ rfl
      have n5:=hn_ 5 (by decide)
      have n7:=hn_ 7 (by decide)
      have n4:=hcl 5 _ n5 rfl 4 (by decide)
      have n6:=hcl 7 _ n7 rfl 6 (by decide)
      have n3:=hcl 4 _ n4 rfl 3 (by decide)
      have n2:=hcl 3 _ n3 rfl 2 (by decide)
      have z9:=zz_ (fun h=>hcl 9 _ h rfl 8 (by decide)) hbi
      have jy:=zz_ (fun h=>hcl 10 _ h rfl 8 (by decide)) hbi
      simp only [hbi,n2,n3,n4,n5,n6,n7,z9,jy] at hI
      obtain ⟨jC,jD,jE,jF,rfl,h⟩:=hI
      refine wpOp_step rfl (fun K' hK'=>?_)
      simp (decide:=true) only [if_true,if_false,reduceIte,n2,n3,n4,n5,n6,n7,z9,jy] at hK'
      obtain ⟨ok1,hfr1,hne1,hN1,up1⟩:=yI h.ps.tg
      have hs:=HSd.out
      have hW:=h.hW
      have Jk:=h.h78 rfl rfl
      have hw:=h.ps.wf.hK.1
      have hcap:=CAP.out
      have hu:=h.hu
      refine Kd.pE k58 (w0:=W) w.heap.size (by rfl) (.tmp 76) (.tmp 78) 33 58 (.agg #[(.int .i64 0),(.int .i64 0),(.int .i64 0),(.int .i64 0),(.int .i64 0),(.slice none 0 0),(.slice none 0 0),(.slice none 0 0)]) 112 rfl Tryz.underlying33 KO rfl (by decide) (by omega) (.slice A0 tl.length c0) tl [(⟨9,0,0,⟨0,0,[]⟩,[],[]⟩:S58)] jC 1 jD ok1 (fun q=>W0.heap.size≤q) rfl rfl hN1 (Kd.N_F Jk) ?aK ?aF (Below.refl _ _) hw ?aL ?_
      case aK=>exact fun q hq=>⟨hfr1 q (Nat.le_trans hs hq),fun e=>by have:=hu q e.symm;omega⟩
      case aF=>exact fun q hq=>hfr1 q (Nat.le_trans hs (Nat.le_trans hW hq))
      case aL=>omega
      intro v1 W' hn hb hg hat
      obtain ⟨A,c,e1⟩:=Kd.eF hn
      rw [List.length_append,List.length_singleton] at e1
      subst e1
      refine hK' _ _ (⟨jC,jD,A,c,?_,⟨h.ps.grown hg (up1 _ _ _ hg hn),(fun _ e=>Bool.noConfusion e),hu,Nat.le_trans hW hg.size⟩⟩)
      show Act.put _ (some 79) _=_
      simp only [aD4,Act.put,List.setIfInBounds_toArray,List.set_cons_zero,List.set_cons_succ]
      rfl
     ·
      have hn_:=hneed _ rfl
      have n0:=hn_ 0 (by decide)
      have n1:=hn_ 1 (by decide)
      have n2:=hn_ 2 (by decide)
      have n3:=hn_ 3 (by decide)
      have n4:=hn_ 4 (by decide)
      have n5:=hn_ 5 (by decide)
      have n6:=hn_ 6 (by decide)
      have n7:=hn_ 7 (by decide)
      have n8:=hn_ 8 (by decide)
      have jy:=zz_ (fun h=>hcl 10 _ h rfl 9 (by decide)) hbi
      simp only [hbi,n0,n1,n2,n3,n4,n5,n6,n7,n8,jy] at hI
      obtain ⟨jC,jD,jE,jF,rfl,h⟩:=hI
      refine wpOp_step rfl (fun K' hK'=>?_)
      simp (decide:=true) only [if_true,if_false,reduceIte,n0,n1,n2,n3,n4,n5,n6,n7,n8,jy] at hK'
      have Jg:(0 < j5.length)=True:=eq_true LENN.out
      refine iW (W:=W) (w1:=W) (v:=?_) (by rfl) ?_ ?_
      rotate_left
      ·(try simp only [aD4,cond_true,cond_false])
       go_simp
       first|with_reducible rfl|rfl
      refine hK' _ _ (⟨jC,jD,jE,jF,?_,h⟩)
      show Act.put _ (some 80) _=_
      simp only [aD4,Act.put,List.setIfInBounds_toArray,List.set_cons_zero,List.set_cons_succ,fI,fO]
      rfl
     ·
      have hn_:=hneed _ rfl
      have n0:=hn_ 0 (by decide)
      have n1:=hn_ 1 (by decide)
      have n2:=hn_ 2 (by decide)
      have n3:=hn_ 3 (by decide)
      have n4:=hn_ 4 (by decide)
      have n5:=hn_ 5 (by decide)
      have n6:=hn_ 6 (by decide)
      have n7:=hn_ 7 (by decide)
      have n8:=hn_ 8 (by decide)
      have n9:=hn_ 9 (by decide)
      simp only [hbi,n0,n1,n2,n3,n4,n5,n6,n7,n8,n9] at hI
      obtain ⟨jC,jD,jE,jF,rfl,h⟩:=hI
      refine wpOp_step rfl (fun K' hK'=>?_)
      simp (decide:=true) only [if_true,if_false,reduceIte,n0,n1,n2,n3,n4,n5,n6,n7,n8,n9] at hK'
      have q0:W.cell? ⟨go_,0,none⟩=some (.slice A0 tl.length c0):=h.ps.hc
      have f0:=h.ps.hf
      refine xZ (w1:=W.setCell ⟨go_,0,none⟩ (.slice jE (tl.length + 1) jF)) (by rfl) rfl ?_ ?_
      ·(try simp only [aD4,cond_true,cond_false])
       go_simp
       (try rfl)
      have h2:=h.ps.store LENN.out
      refine hK' _ _ (⟨jC,jD,jE,jF,rfl,⟨h2,(fun _ e=>Bool.noConfusion e),h.hu,Nat.le_trans h.hW (by simp [World.setCell])⟩⟩)
    case hdone=>
     intro b a W1 hall hI
     replace hI:LD4 w0 w W0 g jj jv j4 j3 jb jc j9 ok_ s_ go_ j5 jd jh gb A0 c0 tl (b 0) (b 1) (b 2) (b 3) (b 4) (b 5) (b 6) (b 7) (b 8) (b 9) (b 10) a W1:=hI
     rw [hall 0 (by decide),hall 1 (by decide),hall 2 (by decide),hall 3 (by decide),hall 4 (by decide),hall 5 (by decide),hall 6 (by decide),hall 7 (by decide),hall 8 (by decide),hall 9 (by decide),hall 10 (by decide)] at hI
     obtain ⟨jC,jD,jE,jF,rfl,h⟩:=hI
     simp only [aD4,cond_true]
     have HP5:=am h.ps
     clear h hall
     have p3_0:W1.cell? ⟨j3,0,none⟩=some (.slice jb j9.length jc):=aN HP5.out.wf.h3 0
     have p3_1:W1.cell? ⟨j3,1,none⟩=some (.slice (some ⟨go_,0,none⟩) j5.length jd):=aN HP5.out.wf.h3 1
     have p2_0:W1.cell? ⟨j4,0,none⟩=some (.slice none 0 0):=aN HP5.out.wf.h2 0
     have p2_1:W1.cell? ⟨j4,1,none⟩=some (.slice none 0 0):=aN HP5.out.wf.h2 1
     have f2_0:=bT HP5.out.wf.h2 0
     have f2_1:=bT HP5.out.wf.h2 1
     go_wp2
     have hE:=HP5.out.done LENN.out GW479.out HOK.out
     rw [RT.out]
     refine bodyPost_ret (results_cell_row rfl _ _ j4 26 #[.slice jb j9.length jc, .slice (some ⟨go_,0,none⟩) j5.length jd] (0,0) _ rfl hE.1 Tryz.underlying26 rfl (by kernel_rfl)) rfl ?_
     exact ⟨_,_,rfl,hE.2.1,hE.2.2.1,hE.2.2.2.1,hE.2.2.2.2.1,hE.2.2.2.2.2⟩
 rw [if_neg qz] at H
 have qZ:(jh == 4)=false:=beq_eq_false_iff_ne.mpr qz
 have z0:(jh != 4)=true:=bne_iff_ne.mpr qz
 simp only [Option.some.injEq,Prod.mk.injEq] at H
 obtain ⟨rfl,rfl,rfl⟩:=H
 have jN:=am (EF j6.out)
 clear j6
 have j6:=jN
 clear jN
 obtain ⟨z6,za,zb,zc⟩:=iV j7.out
 have Jl:=ji.out
 have Jm:=NB0_479.out
 obtain ⟨zd,ze,zf,zg⟩:=iV j8.out
 go_wp2
 refine bodyPost_ret (results_cell_row rfl _ _ j4 26 #[.slice jb j9.length jc, .slice jf j5.length jd] (0,0) _ rfl (aY (aY j8.out 0 _ rfl) 1 _ rfl) Tryz.underlying26 rfl (by kernel_rfl)) rfl ?_
 exact ⟨_,_,gN,gH (Kd.bV (Kd.kI (p:=⟨j4,1,none⟩) (Kd.kI (p:=⟨j4,0,none⟩) (Kd.lW ja.out j8.out (by decide)) (fun _ hk=>hk.2) (.slice jb j9.length jc)) (fun _ hk=>hk.2) (.slice jf j5.length jd)) (fun _ hk=>hk.1.1)),lN (Kd.aW (Kd.dB (p:=⟨j4,1,none⟩) (Kd.dB (p:=⟨j4,0,none⟩) (Kd.aW j6.out (fun k_ hk=>(⟨hk,hk.1.2.2.1⟩:_∧k_≠j4))) (fun _ hk=>hk.2) (.slice jb j9.length jc)) (fun _ hk=>hk.2) (.slice jf j5.length jd)) (fun _ hk=>⟨hk.1.1.1,hk.1.1.2.1⟩)),mW,rO,lI⟩
theorem nQ.calls (A0:Option Addr) (c0:Nat) (l0:List Int) (r1:List Int) (r2:Int) (w0 w:World) (hB:Below w0.heap.size w0 w) (hr0:Kd.C (Kd.int .u8) w0 A0 l0.length l0) (hc0:l0.length≤c0) (h:nQ.f l0=some (r1,r2)):
  Calls Tryz.prog 18 #[.slice A0 l0.length c0] w fun e w'=>∃ g_:Nat,e= .returned (.pointer (some ⟨g_,0,none⟩))∧aI w0 w' g_ r1 r2∧Below w0.heap.size w0 w'∧Below w.heap.size w w':=by
 have hu69:=Tryz.underlying69
 have jc:=am hr0
 have jd:=am hc0
 clear hr0 hc0
 have HBW:=am (Below.refl w.heap.size w)
 have HW0:=am hB.size
 have HB:=am hB
 clear hB
 unfold nQ.f at h
 have H:=h
 clear h
 by_cases c2:(l0.length:Int) > 2000
 ·rw [if_pos c2] at H
  have j5:decide (2000 < (l0.length:Int))=true:=decide_eq_true c2
  have j6:decide (2000 < l0.length)=true:=decide_eq_true (by omega)
  clear c2
  by_cases c3:2000≤(l0.length:Int)
  ·rw [if_pos c3] at H
   have je:=eq_true c3
   have jf:decide (2000≤(l0.length:Int))=true:=decide_eq_true c3
   clear c3
   simp only [Option.some.injEq,Prod.mk.injEq] at H
   obtain ⟨rfl,rfl⟩:=H
   obtain ⟨jh,hi04,_,hsz4,_⟩:=info_parts info5
   obtain ⟨hcut4,hA4,hC4⟩:=MK (P:=Tryz.prog) (Value.int .u8) 0 22 5 .i64 Tryz.underlying22 hi04 hsz4 A0 c0 l0 2000 (by omega) (of_decide_eq_true eB) jd.out
   have j7:=am (Kd.IQ (h1:=fun _=>rfl) (hA4 _ (Kd.BU jc.out)))
   have jg:=am hC4
   clear hA4 hC4 hi04 hsz4
   go_enter Tryz.func18,Tryz.ntmps18
   go_wp2_with (first|((with_reducible refine cK (N:=10) rfl ?_);refine eO rfl (N:=10) rfl (cs:=#[.slice A0 (l0.take 2000).length c0, .int .i64 0]) (t:=69) rn_ ?_;intro j3 hg w5 hbox hb;replace HB:=am (aA dU hb);have j8:=am (hbox);have j9:=am ((by rw [hg];exact (aJ OP):w.heap.size≤j3));have GE21:=am ((Nat.le_trans HW0.out (by rw [hg];exact (aJ OP):w.heap.size≤j3):w0.heap.size≤j3));replace HBW:=am (aA HBW.out hb);clear hb hbox hg))
   go_ret
   exact ⟨_,rfl,(show aI w0 _ j3 (l0.take 2000) 0 from ⟨_,_,by (with_reducible repeat (first|refine dQ ?_ _|refine dA ?_|refine dP ?_ _));exact j8.out,GE21.out,j7.out⟩),vC,by repeat (first|(with_reducible first|exact HBW.out|apply cZ|apply aU|apply bJ|refine below_set ?_ j9.out)|exact HBW.out)⟩
  rw [if_neg c3] at H
  exact absurd H (by simp)
 rw [if_neg c2] at H
 have j5:decide (2000 < (l0.length:Int))=false:=decide_eq_false c2
 have j6:decide (2000 < l0.length)=false:=decide_eq_false (by omega)
 clear c2
 simp only [Option.some.injEq,Prod.mk.injEq] at H
 obtain ⟨rfl,rfl⟩:=H
 go_enter Tryz.func18,Tryz.ntmps18
 go_wp2_with (first|((with_reducible refine cK (N:=10) rfl ?_);refine eO rfl (N:=10) rfl (cs:=#[.slice A0 l0.length c0, .int .i64 0]) (t:=69) rn_ ?_;intro j4 hg w6 hbox hb;replace HB:=am (aA dU hb);have ja:=am (hbox);have jb:=am ((by rw [hg];exact (aJ OP):w.heap.size≤j4));have GE23:=am ((Nat.le_trans HW0.out (by rw [hg];exact (aJ OP):w.heap.size≤j4):w0.heap.size≤j4));replace HBW:=am (aA HBW.out hb);clear hb hbox hg))
 go_ret
 exact ⟨_,rfl,(show aI w0 _ j4 l0 0 from ⟨_,_,by (with_reducible repeat (first|refine dQ ?_ _|refine dA ?_|refine dP ?_ _));exact ja.out,GE23.out,jc.out⟩),pU,by repeat (first|(with_reducible first|exact HBW.out|apply cZ|apply aU|apply bJ|refine below_set ?_ jb.out)|exact HBW.out)⟩
theorem fD.mono:∀ a0 k,LeO (fD.f k a0) (fD.f (k + 1) a0):=by
 intro a0 k
 unfold fD.f
 have m0:=@dD.mono
 exact mo_
theorem fD.calls (k:Nat) (A0:Option Addr) (c0:Nat) (l0:List Int) (r1:List Int) (r2:List (List (S58))) (w:World) (hr0:Kd.C (Kd.int .u8) w A0 l0.length l0) (hc0:l0.length≤c0) (h:fD.f k l0=some (r1,r2)):
  Calls Tryz.prog 7 #[.slice A0 l0.length c0] w fun e w'=>∃ v0_ v1_:Value,e= .returned (.agg #[v0_,v1_])∧Kd.R (Kd.int .i64) 3 w' w.heap.size (fun k_=>(w.heap.size≤k_)) v0_ r1∧Kd.N (Kd.slice 58 k58) 33 w' w.heap.size (fun k_=>(w.heap.size≤k_)∧some k_≠(v0_:Value).ownBlock) v1_ r2∧Below w.heap.size w w':=by
 have hu26:=Tryz.underlying26
 have jo:=am hr0
 have jp:=am hc0
 clear hr0 hc0
 have HB:=am (Below.refl w.heap.size w)
 have H:((nQ.f l0).bind fun j8=>((dD.f k j8.1 j8.2).bind fun j9=>(some (j9.1,j9.2.1))))=some (r1,r2):=h
 clear h
 obtain ⟨⟨jm,jn⟩,A2,H⟩:=bsa H
 (try dsimp only at H)
 obtain ⟨⟨jc,jd,jq⟩,A3,H⟩:=bsa H
 (try dsimp only at H)
 simp only [Option.some.injEq,Prod.mk.injEq] at H
 obtain ⟨rfl,rfl⟩:=H
 go_enter Tryz.func7,Tryz.ntmps7
 go_wp2_with (first|((with_reducible refine cK (N:=2) rfl ?_);refine eO rfl (N:=2) rfl (cs:=#[.slice none 0 0, .slice none 0 0]) (t:=26) rn_ ?_;intro j3 hg w4 hbox hb;have j4:=am (hbox);have jr:=am ((by rw [hg];exact (aJ dU):w.heap.size≤j3));have GE27:=am ((by rw [hg];exact (aJ dU):w.heap.size≤j3));replace HB:=am (aA dU hb);clear hb hbox hg)|((with_reducible refine aD (f:=18) rfl ?_);refine gl_ 4 Tryz.func18 #[.slice A0 l0.length c0] ?_;(with_reducible refine (nQ.calls _ _ l0 jm jn w _ ?side1 jo.out jp.out A2.out).mono ?_);(case side1=>repeat (first|(with_reducible first|exact HB.out|apply cZ|apply aU|apply bJ|refine below_set ?_ GE27.out)|exact HB.out));rintro e w5 ⟨je,rfl,hi,hb,hb2⟩;refine ⟨_,rfl,?_⟩;replace HB:=am (hb);have HI28:=am (hi);have NB28_27:=am (aI.WS hi (eX j4.out hb2) (by decide));have j5:=am (Ne.symm (aI.WS hi (eX j4.out hb2) (by decide)));replace j4:=am (eX j4.out hb2);(try clear hb);(try clear hb2);(try clear hi))|((with_reducible refine aD (f:=17) rfl ?_);refine gl_ 5 Tryz.func17 #[.pointer (some ⟨je,0,none⟩)] ?_;(with_reducible refine (dD.calls k je jm jn jc jd jq w _ ?side1 ?side2 A3.out).mono ?_);(case side1=>exact aCt);(case side2=>exact NA);rintro e w6 ⟨js,jw,rfl,ho0,ho1,hi,hb,hk⟩;refine ⟨_,rfl,?_⟩;have ja:=am (Kd.fG (Kd.vO (M:=fun k_=>(w.heap.size≤k_)) (Kd.bV (ok':=fun k_=>True) ho0 (fun _ hk_=>trivial)) (aJ NA) (fun k_ h_=>h_)) (aJ NA));have jb:=am (Kd.eU (Kd.aW (ok':=fun k_=>(w.heap.size≤k_)∧some k_≠(js:Value).ownBlock∧k_≠j3∧k_≠je) ho1 (fun k_ hk_=>⟨(Nat.le_trans (aJ NA) hk_.1),hk_.2,(lJ j4.out k_ hk_.1),(aI.fresh aCt k_ hk_.1)⟩)) (aJ NA));replace j4:=am (aC.blk hk (g':=j3) (o:= .cells #[.slice none 0 0, .slice none 0 0] 26 (0,0)) (aG_ j4.out) j5.out (by simp));replace HB:=am (hb);replace HI28:=am (hi);(try clear hb);(try clear hk);(try clear hi);(try clear ho0);(try clear ho1);obtain ⟨jf,jg,jt⟩:=Kd.eY ja.out;subst jt;have ju:=j5.out;have jv:=NB28_27.out;obtain ⟨jh,ji,jj,jk⟩:=iV j4.out;obtain ⟨j6,j7,jl⟩:=Kd.eF jb.out;subst jl))
 refine bodyPost_ret (results_cell_row rfl _ _ j3 26 #[.slice jf jc.length jg, .slice j6 jd.length j7] (0,0) _ rfl (aY (aY j4.out 0 _ rfl) 1 _ rfl) Tryz.underlying26 rfl (by kernel_rfl)) rfl ?_
 exact ⟨_,_,gN,gH (Kd.bV (Kd.kI (p:=⟨j3,1,none⟩) (Kd.kI (p:=⟨j3,0,none⟩) (Kd.lW ja.out j4.out (by decide)) (fun _ hk=>hk.2) (.slice jf jc.length jg)) (fun _ hk=>hk.2) (.slice j6 jd.length j7)) (fun _ hk=>hk.1.1)),lN (Kd.aW (Kd.dB (p:=⟨j3,1,none⟩) (Kd.dB (p:=⟨j3,0,none⟩) (Kd.aW jb.out (fun k_ hk=>(⟨hk,hk.2.2.1⟩:_∧k_≠j3))) (fun _ hk=>hk.2) (.slice jf jc.length jg)) (fun _ hk=>hk.2) (.slice j6 jd.length j7)) (fun _ hk=>⟨hk.1.1,hk.1.2.1⟩)),NA⟩
theorem dG.mono_l:∀ k,(∀ y0 y1 y2 y3,LeO (dG.l0 k y0 y1 y2 y3) (dG.l0 (k + 1) y0 y1 y2 y3))
 |0=>fun _ _ _ _ r h=>by simp [dG.l0] at h
 |k + 1=>by
  have ih0:=dG.mono_l k
  ·intro y0 y1 y2 y3
   unfold dG.l0
   exact mo_
theorem dG.mono:∀ a0 k,LeO (dG.f k a0) (dG.f (k + 1) a0):=by
 intro a0 k
 have ih0:=dG.mono_l k
 unfold dG.f
 exact mo_
theorem dG.calls (k:Nat) (A0:Option Addr) (c0:Nat) (l0:List Int) (r:Bool) (w:World) (hr0:Kd.C (Kd.int .i64) w A0 l0.length l0) (hc0:l0.length≤c0) (h:dG.f k l0=some r):
  Calls Tryz.prog 39 #[.slice A0 l0.length c0] w fun e w'=>e= .returned (.bool r)∧gQ w w':=by
 have j9:=am hr0
 have jg:=am hc0
 clear hr0 hc0
 have H:(dG.l0 k l0 l0 (l0.length:Int) 0)=some r:=h
 clear h
 have H':=am H
 clear H
 go_enter Tryz.func39,Tryz.ntmps39
 go_wp2
 go_loopg [7] k (fun kq v7 w'=>∃ (j3:Int),v7= .int .i64 j3∧Aside0 (dG.l0 kq l0 l0 (l0.length:Int) j3=some r)∧Aside0 (kq≤k)∧gQ w w')
 case atStart=>exact ⟨(0),sd_,H',⟨Nat.le_refl _⟩,fK⟩
 case round=>
  clear H'
  obtain ⟨j3,rfl,HA,jd,⟨m1,rfl⟩⟩:=hrel
  cases gk with
  |zero=>exact absurd HA.out (by simp [dG.l0])
  |succ k1=>
   have H:=HA.out
   clear HA
   simp only [dG.l0] at H
   by_cases c2:j3 < (l0.length:Int)
   ·rw [if_pos c2] at H
    have ja:decide (j3 < (l0.length:Int))=true:=decide_eq_true c2
    clear c2
    by_cases c3:0≤j3
    ·rw [if_pos c3] at H
     have je:decide (0≤j3)=true:=decide_eq_true c3
     clear c3
     by_cases c4:j3 < (l0.length:Int)
     ·rw [if_pos c4] at H
      have jf:decide (j3 < (l0.length:Int))=true:=decide_eq_true c4
      clear c4
      by_cases c5:(rd l0 j3) < 1
      ·rw [if_pos c5] at H
       have jb:decide ((rd l0 j3) < 1)=true:=decide_eq_true c5
       clear c5
       obtain rfl:=Option.some.inj H
       have j4:0≤(j3:Int):=of_decide_eq_true eB
       have j5:j3 < (l0.length:Int):=of_decide_eq_true eB
       obtain ⟨j7,j8,j6⟩:=Kd.oF j9.out j3 j4 j5
       cases j8
       replace j4:=eq_true j4
       replace j5:=eq_true j5
       go_wp2
       go_ret
       exact ⟨sd_,fK⟩
      rw [if_neg c5] at H
      have jb:decide ((rd l0 j3) < 1)=false:=decide_eq_false c5
      clear c5
      by_cases c6:(rd l0 j3) > 4
      ·rw [if_pos c6] at H
       have jc:decide (4 < (rd l0 j3))=true:=decide_eq_true c6
       clear c6
       obtain rfl:=Option.some.inj H
       have j4:0≤(j3:Int):=of_decide_eq_true eB
       have j5:j3 < (l0.length:Int):=of_decide_eq_true eB
       obtain ⟨j7,j8,j6⟩:=Kd.oF j9.out j3 j4 j5
       cases j8
       replace j4:=eq_true j4
       replace j5:=eq_true j5
       go_wp2
       go_ret
       exact ⟨sd_,fK⟩
      rw [if_neg c6] at H
      have jc:decide (4 < (rd l0 j3))=false:=decide_eq_false c6
      clear c6
      have H':=am H
      clear H
      have j4:0≤(j3:Int):=of_decide_eq_true eB
      have j5:j3 < (l0.length:Int):=of_decide_eq_true eB
      obtain ⟨j7,j8,j6⟩:=Kd.oF j9.out j3 j4 j5
      cases j8
      replace j4:=eq_true j4
      replace j5:=eq_true j5
      go_wp2
      go_roundg k1
      case measure=>have:=jd.out;omega
      case rel=>exact ⟨(wrap64 (j3 + 1)),sd_,H',⟨by have:=jd.out;omega⟩,fK⟩
     rw [if_neg c4] at H
     exact absurd H (by simp)
    rw [if_neg c3] at H
    exact absurd H (by simp)
   rw [if_neg c2] at H
   have ja:decide (j3 < (l0.length:Int))=false:=decide_eq_false c2
   clear c2
   obtain rfl:=Option.some.inj H
   go_wp2
   go_ret
   exact ⟨sd_,fK⟩
theorem gW.calls (a0:Int) (r:Bool) (w:World) (h:gW.f a0=some r):
  Calls Tryz.prog 115 #[.int .i64 a0] w fun e w'=>e= .returned (.bool r)∧gQ w w':=by
 have H:(if a0≥1 then (some (decide (a0≤12))) else (some false))=some r:=h
 clear h
 by_cases c2:a0≥1
 ·rw [if_pos c2] at H
  have j3:decide (1≤a0)=true:=decide_eq_true c2
  clear c2
  obtain rfl:=Option.some.inj H
  go_enter Tryz.func115,Tryz.ntmps115
  go_wp2
  go_ret
  exact ⟨sd_,fK⟩
 rw [if_neg c2] at H
 have j3:decide (1≤a0)=false:=decide_eq_false c2
 clear c2
 obtain rfl:=Option.some.inj H
 go_enter Tryz.func115,Tryz.ntmps115
 go_wp2
 go_ret
 exact ⟨sd_,fK⟩
theorem fB.mono_l:∀ k,(∀ y0 y1 y2 y3,LeO (fB.f k y0 y1 y2 y3) (fB.f (k + 1) y0 y1 y2 y3))
 |0=>fun _ _ _ _ r h=>by simp [fB.f] at h
 |k + 1=>by
  have ih0:=fB.mono_l k
  ·intro y0 y1 y2 y3
   unfold fB.f
   exact mo_
theorem fB.mono:∀ a0 a1 a2 a3 k,LeO (fB.f k a0 a1 a2 a3) (fB.f (k + 1) a0 a1 a2 a3):=by
 intro a0 a1 a2 a3 k
 have ih0:=fB.mono_l k
 exact ih0 a0 a1 a2 a3
theorem fB.calls (k:Nat):∀ (j7:Int) (j8:Int) (jg:Option Addr) (jh:Nat) (j3:List (S56)) (a1:Int) (r:Bool) (w:World) (hr0_2:Kd.C k56 w jg j3.length j3) (hc0_2:j3.length≤jh) (h:fB.f k j7 j8 j3 a1=some r),
  Calls Tryz.prog 131 #[.agg #[.int .i64 j7, .int .i64 j8, .slice jg j3.length jh], .int .i64 a1] w fun e w'=>e= .returned (.bool r)∧Below w.heap.size w w':=by
 induction k using Nat.strongRecOn with
 | _ k ih=>
 intro j7 j8 jg jh j3 a1 r w hr0_2 hc0_2 h
 cases k with
 |zero=>exact absurd h (by simp [fB.f])
 |succ k=>
 simp only [fB.f] at h
 have hu56:=Tryz.underlying56
 have jf:=am hr0_2
 have qa:=am hc0_2
 clear hr0_2 hc0_2
 have HB:=am (Below.refl w.heap.size w)
 have H:=h
 clear h
 have HH_:=am H
 clear H
 go_enter Tryz.func131,Tryz.ntmps131
 go_upto_region 1 with (first|((with_reducible refine cK (N:=2) rfl ?_);(try (refine pO (by rfl) ?_;dsimp only));refine eO rfl (N:=2) rfl (cs:=#[.int .i64 j7, .int .i64 j8, .slice jg j3.length jh]) (t:=56) rn_ ?_;intro ju hg w7 hbox hb;have jc:=am (hbox);have qm:=am ((by rw [hg];exact (aJ dU):w.heap.size≤ju));have GE23:=am ((by rw [hg];exact (aJ dU):w.heap.size≤ju));replace HB:=am (aA dU hb);clear hb hbox hg;obtain ⟨jT,jU,jV,jW,jX,jY⟩:=lU jc.out))
 have H:=HH_.out
 clear HH_
 by_cases c3:j7=0
 ·rw [if_pos c3] at H
  have jZ:(j7 == 0)=true:=beq_iff_eq.mpr c3
  have q0:(j7 != 0)=false:=bne_eq_false_iff_eq.mpr c3
  clear c3
  by_cases c4:j8≥0
  ·rw [if_pos c4] at H
   have q1:decide (0≤j8)=true:=decide_eq_true c4
   clear c4
   by_cases c5:j8≤99999
   ·rw [if_pos c5] at H
    have q2:decide (j8≤99999)=true:=decide_eq_true c5
    clear c5
    by_cases c6:(j3.length:Int)=0
    ·rw [if_pos c6] at H
     have q3:((j3.length:Int) == 0)=true:=beq_iff_eq.mpr c6
     have q4:((j3.length:Int) != 0)=false:=bne_eq_false_iff_eq.mpr c6
     clear c6
     obtain rfl:=Option.some.inj H
     go_wp2
     go_ret
     exact ⟨rr_,pU⟩
    rw [if_neg c6] at H
    have q3:((j3.length:Int) == 0)=false:=beq_eq_false_iff_ne.mpr c6
    have q4:((j3.length:Int) != 0)=true:=bne_iff_ne.mpr c6
    have qn:¬ (j3=[]):=fun h_=>c6 (by rw [h_];rfl)
    obtain rfl:=Option.some.inj H
    go_wp2
    go_ret
    exact ⟨rr_,pU⟩
   rw [if_neg c5] at H
   have q2:decide (j8≤99999)=false:=decide_eq_false c5
   clear c5
   obtain rfl:=Option.some.inj H
   go_wp2
   go_ret
   exact ⟨rr_,pU⟩
  rw [if_neg c4] at H
  have q1:decide (0≤j8)=false:=decide_eq_false c4
  clear c4
  obtain rfl:=Option.some.inj H
  go_wp2
  go_ret
  exact ⟨rr_,pU⟩
 rw [if_neg c3] at H
 have jZ:(j7 == 0)=false:=beq_eq_false_iff_ne.mpr c3
 have q0:(j7 != 0)=true:=bne_iff_ne.mpr c3
 by_cases jj:j7=13
 ·rw [if_pos jj] at H
  have jv:(j7 == 13)=true:=beq_iff_eq.mpr jj
  have jw:(j7 != 13)=false:=bne_eq_false_iff_eq.mpr jj
  clear jj
  by_cases jq:j8≥0
  ·rw [if_pos jq] at H
   have jx:decide (0≤j8)=true:=decide_eq_true jq
   clear jq
   by_cases jr:j8 < 4
   ·rw [if_pos jr] at H
    have jy:decide (j8 < 4)=true:=decide_eq_true jr
    clear jr
    by_cases ji:(j3.length:Int)=0
    ·rw [if_pos ji] at H
     have jz:((j3.length:Int) == 0)=true:=beq_iff_eq.mpr ji
     have jA:((j3.length:Int) != 0)=false:=bne_eq_false_iff_eq.mpr ji
     clear ji
     obtain rfl:=Option.some.inj H
     go_wp2
     go_ret
     exact ⟨rr_,pU⟩
    rw [if_neg ji] at H
    have jz:((j3.length:Int) == 0)=false:=beq_eq_false_iff_ne.mpr ji
    have jA:((j3.length:Int) != 0)=true:=bne_iff_ne.mpr ji
    have qb:¬ (j3=[]):=fun h_=>ji (by rw [h_];rfl)
    obtain rfl:=Option.some.inj H
    go_wp2
    go_ret
    exact ⟨rr_,pU⟩
   rw [if_neg jr] at H
   have jy:decide (j8 < 4)=false:=decide_eq_false jr
   clear jr
   obtain rfl:=Option.some.inj H
   go_wp2
   go_ret
   exact ⟨rr_,pU⟩
  rw [if_neg jq] at H
  have jx:decide (0≤j8)=false:=decide_eq_false jq
  clear jq
  obtain rfl:=Option.some.inj H
  go_wp2
  go_ret
  exact ⟨rr_,pU⟩
 rw [if_neg jj] at H
 have jv:(j7 == 13)=false:=beq_eq_false_iff_ne.mpr jj
 have jw:(j7 != 13)=true:=bne_iff_ne.mpr jj
 obtain ⟨qo,qc,H⟩:=bsm H
 (try dsimp only at H)
 have js:=am qc
 clear qc
 by_cases jJ:qo=true
 ·subst jJ
  rw [if_pos rfl] at H
  by_cases jk:j8=0
  ·rw [if_pos jk] at H
   have jB:(j8 == 0)=true:=beq_iff_eq.mpr jk
   have jC:(j8 != 0)=false:=bne_eq_false_iff_eq.mpr jk
   clear jk
   by_cases jl:(j3.length:Int)=2
   ·rw [if_pos jl] at H
    have jD:((j3.length:Int) == 2)=true:=beq_iff_eq.mpr jl
    have jE:((j3.length:Int) != 2)=false:=bne_eq_false_iff_eq.mpr jl
    clear jl
    by_cases jt:a1 > 1
    ·rw [if_pos jt] at H
     have jF:decide (1 < a1)=true:=decide_eq_true jt
     clear jt
     by_cases jK:0 < (j3.length:Int)
     ·rw [if_pos jK] at H
      have qd:decide (0 < (j3.length:Int))=true:=decide_eq_true jK
      have qe:decide (0 < j3.length)=true:=decide_eq_true (by omega)
      clear jK
      obtain ⟨qp,qf,H⟩:=bsm H
      (try dsimp only at H)
      have qg:=am qf
      clear qf
      by_cases jL:qp=true
      ·subst jL
       rw [if_pos rfl] at H
       by_cases jM:1 < (j3.length:Int)
       ·rw [if_pos jM] at H
        have qh:decide (1 < (j3.length:Int))=true:=decide_eq_true jM
        have qi:decide (1 < j3.length)=true:=decide_eq_true (by omega)
        clear jM
        obtain ⟨qq,qj,H⟩:=bsm H
        (try dsimp only at H)
        have qr:=am qj
        clear qj
        obtain rfl:=Option.some.inj H
        go_wp2_with (first|((with_reducible refine aD (f:=115) rfl ?_);refine gl_ 51 Tryz.func115 #[.int .i64 j7] ?_;(with_reducible refine (gW.calls j7 true _ js.out).mono ?_);rintro e w' ⟨rfl,⟨nd,rfl⟩⟩;refine ⟨_,rfl,?_⟩;have jm:0≤(0:Int):=(by omega);have jn:0 < (j3.length:Int):=of_decide_eq_true eB;obtain ⟨jG,jH,jI,q5,j4,j5,j6,hl37_2,hi37_2⟩:=sD jf.out 0 jm jn;cases q5;have q6:(0 < j3.length)=True:=eq_true (by omega);(try rw [show ((0:Int)).toNat=0 from rfl] at j4);(try rw [show 0 * 3=0 from rfl] at j4);(try rw [Addr.add_zero'] at j4);(try rw [show ((0:Int)).toNat=0 from rfl] at j5);(try rw [show 0 * 3=0 from rfl] at j5);(try rw [Addr.add_zero'] at j5);(try rw [show ((0:Int)).toNat=0 from rfl] at j6);(try rw [show 0 * 3=0 from rfl] at j6);(try rw [Addr.add_zero'] at j6);replace j4:=(HB.out.cell (World.block_lt_of_cell? w _ j4)).trans j4;replace j5:=(HB.out.cell (World.block_lt_of_cell? w _ j5)).trans j5;replace j6:=(HB.out.cell (World.block_lt_of_cell? w _ j6)).trans j6;have jd:=am hi37_2;have je:=am hl37_2;clear hi37_2 hl37_2;replace jm:=eq_true jm;replace jn:=eq_true jn)|(go_at_call 131;(with_reducible refine (ih k (by omega) ((bW j3 0).f0) ((bW j3 0).f1) _ _ ((bW j3 0).f2) (wrap64 (a1 - 1)) true _ (aC_ (Kd.aT jd.out pU)) je.out qg.out).mono ?_);rintro e qu ⟨rfl,hb⟩;replace jc:=bbP jc hb;replace HB:=am (aA pU hb);(try clear hb);obtain ⟨jN,jO,jP,jQ,jR,jS⟩:=lU jc.out;have q7:0≤(1:Int):=(by omega);have q8:1 < (j3.length:Int):=of_decide_eq_true eB;obtain ⟨q9,qk,ql,qs,j9,ja,jb,hl38_2,hi38_2⟩:=sD jf.out 1 q7 q8;obtain rfl:jG=q9:=(by injection qs);(try simp only [show (1:Int).toNat=1 from rfl,Nat.reduceMul,Nat.reduceEqDiff,Go.Addr.add,↓reduceIte] at j9);(try simp only [show (1:Int).toNat=1 from rfl,Nat.reduceMul,Nat.reduceEqDiff,Go.Addr.add,↓reduceIte] at ja);(try simp only [show (1:Int).toNat=1 from rfl,Nat.reduceMul,Nat.reduceEqDiff,Go.Addr.add,↓reduceIte] at jb);have qt:(1 < j3.length)=True:=eq_true (by omega);(try rw [show ((1:Int)).toNat=1 from rfl] at j9);(try rw [show 1 * 3=3 from rfl] at j9);(try rw [show ((1:Int)).toNat=1 from rfl] at ja);(try rw [show 1 * 3=3 from rfl] at ja);(try rw [show ((1:Int)).toNat=1 from rfl] at jb);(try rw [show 1 * 3=3 from rfl] at jb);replace j9:=(HB.out.cell (World.block_lt_of_cell? w _ j9)).trans j9;replace ja:=(HB.out.cell (World.block_lt_of_cell? w _ ja)).trans ja;replace jb:=(HB.out.cell (World.block_lt_of_cell? w _ jb)).trans jb;have jo:=am hi38_2;have jp:=am hl38_2;clear hi38_2 hl38_2;replace q7:=eq_true q7;replace q8:=eq_true q8)|(go_at_call 131;(with_reducible refine (ih k (by omega) ((bW j3 1).f0) ((bW j3 1).f1) _ _ ((bW j3 1).f2) (wrap64 (a1 - 1)) qq _ (aC_ (Kd.aT jo.out HB.out)) jp.out qr.out).mono ?_);rintro e qv ⟨rfl,hb⟩;replace jc:=bbP jc hb;replace HB:=am (aA pU hb);(try clear hb)))
        go_ret
        exact ⟨rr_,pU⟩
       rw [if_neg jM] at H
       exact absurd H (by simp)
      replace jL:=Bool.eq_false_iff.mpr jL
      subst jL
      rw [if_neg (show ¬ (false=true) by decide)] at H
      obtain rfl:=Option.some.inj H
      go_wp2_with (first|((with_reducible refine aD (f:=115) rfl ?_);refine gl_ 51 Tryz.func115 #[.int .i64 j7] ?_;(with_reducible refine (gW.calls j7 true _ js.out).mono ?_);rintro e w' ⟨rfl,⟨nd,rfl⟩⟩;refine ⟨_,rfl,?_⟩;have jm:0≤(0:Int):=(by omega);have jn:0 < (j3.length:Int):=of_decide_eq_true eB;obtain ⟨jG,jH,jI,q5,j4,j5,j6,hl37_2,hi37_2⟩:=sD jf.out 0 jm jn;cases q5;have q6:(0 < j3.length)=True:=eq_true (by omega);(try rw [show ((0:Int)).toNat=0 from rfl] at j4);(try rw [show 0 * 3=0 from rfl] at j4);(try rw [Addr.add_zero'] at j4);(try rw [show ((0:Int)).toNat=0 from rfl] at j5);(try rw [show 0 * 3=0 from rfl] at j5);(try rw [Addr.add_zero'] at j5);(try rw [show ((0:Int)).toNat=0 from rfl] at j6);(try rw [show 0 * 3=0 from rfl] at j6);(try rw [Addr.add_zero'] at j6);replace j4:=(HB.out.cell (World.block_lt_of_cell? w _ j4)).trans j4;replace j5:=(HB.out.cell (World.block_lt_of_cell? w _ j5)).trans j5;replace j6:=(HB.out.cell (World.block_lt_of_cell? w _ j6)).trans j6;have jd:=am hi37_2;have je:=am hl37_2;clear hi37_2 hl37_2;replace jm:=eq_true jm;replace jn:=eq_true jn)|(go_at_call 131;(with_reducible refine (ih k (by omega) ((bW j3 0).f0) ((bW j3 0).f1) _ _ ((bW j3 0).f2) (wrap64 (a1 - 1)) false _ (aC_ (Kd.aT jd.out pU)) je.out qg.out).mono ?_);rintro e qw ⟨rfl,hb⟩;replace jc:=bbP jc hb;replace HB:=am (aA pU hb);(try clear hb)))
      go_ret
      exact ⟨rr_,pU⟩
     rw [if_neg jK] at H
     exact absurd H (by simp)
    rw [if_neg jt] at H
    have jF:decide (1 < a1)=false:=decide_eq_false jt
    clear jt
    obtain rfl:=Option.some.inj H
    go_wp2_with (first|((with_reducible refine aD (f:=115) rfl ?_);refine gl_ 51 Tryz.func115 #[.int .i64 j7] ?_;(with_reducible refine (gW.calls j7 true _ js.out).mono ?_);rintro e w' ⟨rfl,⟨nd,rfl⟩⟩;refine ⟨_,rfl,?_⟩))
    go_ret
    exact ⟨rr_,pU⟩
   rw [if_neg jl] at H
   have jD:((j3.length:Int) == 2)=false:=beq_eq_false_iff_ne.mpr jl
   have jE:((j3.length:Int) != 2)=true:=bne_iff_ne.mpr jl
   obtain rfl:=Option.some.inj H
   go_wp2_with (first|((with_reducible refine aD (f:=115) rfl ?_);refine gl_ 51 Tryz.func115 #[.int .i64 j7] ?_;(with_reducible refine (gW.calls j7 true _ js.out).mono ?_);rintro e w' ⟨rfl,⟨nd,rfl⟩⟩;refine ⟨_,rfl,?_⟩))
   go_ret
   exact ⟨rr_,pU⟩
  rw [if_neg jk] at H
  have jB:(j8 == 0)=false:=beq_eq_false_iff_ne.mpr jk
  have jC:(j8 != 0)=true:=bne_iff_ne.mpr jk
  obtain rfl:=Option.some.inj H
  go_wp2_with (first|((with_reducible refine aD (f:=115) rfl ?_);refine gl_ 51 Tryz.func115 #[.int .i64 j7] ?_;(with_reducible refine (gW.calls j7 true _ js.out).mono ?_);rintro e w' ⟨rfl,⟨nd,rfl⟩⟩;refine ⟨_,rfl,?_⟩))
  go_ret
  exact ⟨rr_,pU⟩
 replace jJ:=Bool.eq_false_iff.mpr jJ
 subst jJ
 rw [if_neg (show ¬ (false=true) by decide)] at H
 obtain rfl:=Option.some.inj H
 go_wp2_with (first|((with_reducible refine aD (f:=115) rfl ?_);refine gl_ 51 Tryz.func115 #[.int .i64 j7] ?_;(with_reducible refine (gW.calls j7 false _ js.out).mono ?_);rintro e w' ⟨rfl,⟨nd,rfl⟩⟩;refine ⟨_,rfl,?_⟩))
 go_ret
 exact ⟨rr_,pU⟩
theorem iG.mono:∀ a0 a1 a2 k,LeO (iG.f k a0 a1 a2) (iG.f (k + 1) a0 a1 a2):=by
 intro a0 a1 a2 k
 unfold iG.f
 have m0:=@fB.mono
 exact mo_
theorem iG.calls (k:Nat) (j4:Int) (j5:Int) (j6:Option Addr) (j7:Nat) (j3:List (S56)) (r:Bool) (w:World) (hr0_2:Kd.C k56 w j6 j3.length j3) (hc0_2:j3.length≤j7) (h:iG.f k j4 j5 j3=some r):
  Calls Tryz.prog 109 #[.agg #[.int .i64 j4, .int .i64 j5, .slice j6 j3.length j7]] w fun e w'=>e= .returned (.bool r)∧Below w.heap.size w w':=by
 have hu56:=Tryz.underlying56
 have j9:=am hr0_2
 have ja:=am hc0_2
 clear hr0_2 hc0_2
 have HB:=am (Below.refl w.heap.size w)
 have H:((fB.f k j4 j5 j3 5).bind fun jc=>(some jc))=some r:=h
 clear h
 obtain ⟨jc,A2,H⟩:=bsa H
 (try dsimp only at H)
 obtain rfl:=Option.some.inj H
 go_enter Tryz.func109,Tryz.ntmps109
 go_wp2_with (first|((with_reducible refine cK (N:=1) rfl ?_);refine eO rfl (N:=1) rfl (cs:=#[.int .i64 j4, .int .i64 j5, .slice j6 j3.length j7]) (t:=56) rn_ ?_;intro jb hg w3 hbox hb;have j8:=am (hbox);have jj:=am ((by rw [hg];exact (aJ dU):w.heap.size≤jb));have GE22:=am ((by rw [hg];exact (aJ dU):w.heap.size≤jb));replace HB:=am (aA dU hb);clear hb hbox hg;obtain ⟨jd,je,jf,jg,jh,ji⟩:=lU j8.out)|((with_reducible refine aD (f:=131) rfl ?_);refine gl_ 4 Tryz.func131 #[.agg #[.int .i64 j4, .int .i64 j5, .slice j6 j3.length j7], .int .i64 5] ?_;(with_reducible refine (fB.calls k j4 j5 _ _ j3 5 jc _ (aC_ (Kd.aT j9.out HB.out)) ja.out A2.out).mono ?_);rintro e w5 ⟨rfl,hb⟩;refine ⟨_,rfl,?_⟩;replace j8:=bbP j8 hb;replace HB:=am (aA vB hb);(try clear hb)))
 go_ret
 exact ⟨rr_,vB⟩
theorem EM.calls (n limit:Int) (needed:Bool) (w:World):
  Calls Tryz.prog 108 #[.int .i64 n, .int .i64 limit, .bool needed] w fun e w'=>e= .returned (.bool (inr n limit needed))∧gQ w w':=by
 by_cases h0:n=0
 ·subst h0
  go_enter Tryz.func108,Tryz.ntmps108
  go_wp2
  go_ret
  exact ⟨by simp [inr],fK⟩
 have h0b:(n == 0)=false:=beq_eq_false_iff_ne.mpr h0
 cases needed with
 |false=>
  go_enter Tryz.func108,Tryz.ntmps108
  go_wp2
  go_ret
  exact ⟨by simp [inr,h0],fK⟩
 |true=>
  by_cases h1:0 < n
  ·have h1b:decide (0 < n)=true:=decide_eq_true h1
   by_cases h2:n < limit
   ·have h2b:decide (n < limit)=true:=decide_eq_true h2
    go_enter Tryz.func108,Tryz.ntmps108
    go_wp2
    go_ret
    exact ⟨by simp [inr,h0];omega,fK⟩
   have h2b:decide (n < limit)=false:=decide_eq_false h2
   go_enter Tryz.func108,Tryz.ntmps108
   go_wp2
   go_ret
   exact ⟨by simp [inr,h0];omega,fK⟩
  have h1b:decide (0 < n)=false:=decide_eq_false h1
  go_enter Tryz.func108,Tryz.ntmps108
  go_wp2
  go_ret
  exact ⟨by simp [inr,h0];omega,fK⟩
theorem oK {n limit:Int} {needed b:Bool} (w:World) (h:inr n limit needed=b):
  Calls Tryz.prog 108 #[.int .i64 n, .int .i64 limit, .bool needed] w fun e w'=>e= .returned (.bool b)∧gQ w w':=h ▸ EM.calls n limit needed w
theorem mF.mono:∀ nv nb ne nd no va bx op n la lb le boxes k,LeO (mF k nv nb ne nd no va bx op n la lb le boxes) (mF (k + 1) nv nb ne nd no va bx op n la lb le boxes):=by
 intro nv nb ne nd no va bx op n la lb le boxes k
 unfold mF
 have m0:=@iG.mono
 exact mo_
theorem fC.mono:∀ kd va bx op n la lb le boxes k,LeO (fC.f k kd va bx op n la lb le boxes) (fC.f (k + 1) kd va bx op n la lb le boxes):=by
 intro kd va bx op n la lb le boxes k
 unfold fC.f
 have m0:=@mF.mono
 exact mo_
attribute [local irreducible] inr
theorem fC.callsP (k:Nat) (g:Addr) (kd va bx op n:Int) (Aa:Option Addr) (ca:Nat) (la:List S56) (Ab:Option Addr) (lb cb:Nat) (Ae:Option Addr) (le ce:Nat) (boxes:Int) (r:Bool) (w:World)
  (hg0:w.cell? g=some (.int .i64 kd)) (hg1:w.cell? ⟨g.block,g.off + 1,none⟩=some (.int .i64 va)) (hg2:w.cell? ⟨g.block,g.off + 2,none⟩=some (.int .i64 bx))
  (hg3:w.cell? ⟨g.block,g.off + 3,none⟩=some (.int .i64 op)) (hg4:w.cell? ⟨g.block,g.off + 4,none⟩=some (.int .i64 n)) (hg5:w.cell? ⟨g.block,g.off + 5,none⟩=some (.slice Aa la.length ca))
  (hg6:w.cell? ⟨g.block,g.off + 6,none⟩=some (.slice Ab lb cb)) (hg7:w.cell? ⟨g.block,g.off + 7,none⟩=some (.slice Ae le ce))
  (hr:Kd.C k56 w Aa la.length la) (hc:la.length≤ca) (h:fC.f k kd va bx op n la lb le boxes=some r):
  Calls Tryz.prog 83 #[.pointer (some g), .int .i64 boxes] w fun e w'=>e= .returned (.bool r)∧Below w.heap.size w w':=by
 have HR:=am hr
 have HC:=am hc
 have HH:=am h
 clear hr hc h
 go_enter Tryz.func83,Tryz.ntmps83
 go_upto_region 2 with (first|((with_reducible refine cK (N:=5) rfl ?_);refine eO (N:=5) rfl rfl (cs:=#[.bool false, .bool false, .bool false, .bool false, .bool false]) (t:=137) rn_ ?_;intro gb hg w1 hbox hb)|fail)
 have k0:=bN hb hg0
 have z0:=aN hbox 0
 have z1:=aN hbox 1
 have z2:=aN hbox 2
 have z3:=aN hbox 3
 have z4:=aN hbox 4
 have f0:=bT hbox 0
 have f1:=bT hbox 1
 have f2:=bT hbox 2
 have f3:=bT hbox 3
 have f4:=bT hbox 4
 have HBX:=am hbox
 have HB:=am hb
 have HG:=am (Nat.le_of_eq hg.symm)
 clear hbox hb hg
 go_upto_block 0 with fail
 go_cut [4,5] from 7 (fun v4 v5 wc=>∃ nv nb ne nd no,v5= .pointer (some ⟨gb,0,none⟩)∧Aside0 (mF k nv nb ne nd no va bx op n la lb le boxes=some r)∧Aside0 (wc.heap[gb]?=some (.cells #[.bool nv, .bool nb, .bool ne, .bool nd, .bool no] 137 (0,0)))∧Aside0 (Below w.heap.size w wc))
 case first=>
  have H:=HH.out
  clear HH
  unfold fC.f at H
  by_cases c1:kd=1
  ·rw [if_pos c1] at H
   subst c1
   have H':=am H
   clear H
   go_wp2
   go_meet
   case rel=>exact ⟨true,false,true,false,false,rfl,H',⟨(aY (aY HBX.out 0 (.bool true) (by rfl)) 2 (.bool true) (by rfl))⟩,⟨(below_set (below_set HB.out HG.out) HG.out)⟩⟩
  rw [if_neg c1] at H
  have d1:(kd == 1)=false:=beq_eq_false_iff_ne.mpr c1
  by_cases c2:kd=2
  ·rw [if_pos c2] at H
   subst c2
   have H':=am H
   clear H
   go_wp2
   go_meet
   case rel=>exact ⟨false,false,true,true,true,rfl,H',⟨(aY (aY (aY HBX.out 2 (.bool true) (by rfl)) 3 (.bool true) (by rfl)) 4 (.bool true) (by rfl))⟩,⟨(below_set (below_set (below_set HB.out HG.out) HG.out) HG.out)⟩⟩
  rw [if_neg c2] at H
  have d2:(kd == 2)=false:=beq_eq_false_iff_ne.mpr c2
  by_cases c3:kd=3
  ·rw [if_pos c3] at H
   subst c3
   have H':=am H
   clear H
   go_wp2
   go_meet
   case rel=>exact ⟨false,false,true,true,false,rfl,H',⟨(aY (aY HBX.out 2 (.bool true) (by rfl)) 3 (.bool true) (by rfl))⟩,⟨(below_set (below_set HB.out HG.out) HG.out)⟩⟩
  rw [if_neg c3] at H
  have d3:(kd == 3)=false:=beq_eq_false_iff_ne.mpr c3
  by_cases c4:kd=4
  ·rw [if_pos c4] at H
   subst c4
   have H':=am H
   clear H
   go_wp2
   go_meet
   case rel=>exact ⟨false,true,true,false,false,rfl,H',⟨(aY (aY HBX.out 1 (.bool true) (by rfl)) 2 (.bool true) (by rfl))⟩,⟨(below_set (below_set HB.out HG.out) HG.out)⟩⟩
  rw [if_neg c4] at H
  have d4:(kd == 4)=false:=beq_eq_false_iff_ne.mpr c4
  by_cases c5:kd=5
  ·rw [if_pos c5] at H
   subst c5
   have H':=am H
   clear H
   go_wp2
   go_meet
   case rel=>exact ⟨true,true,false,false,false,rfl,H',⟨(aY (aY HBX.out 1 (.bool true) (by rfl)) 0 (.bool true) (by rfl))⟩,⟨(below_set (below_set HB.out HG.out) HG.out)⟩⟩
  rw [if_neg c5] at H
  have d5:(kd == 5)=false:=beq_eq_false_iff_ne.mpr c5
  by_cases c7:kd=7
  ·rw [if_pos c7] at H
   subst c7
   have H':=am H
   clear H
   go_wp2
   go_meet
   case rel=>exact ⟨false,false,true,false,false,rfl,H',⟨(aY HBX.out 2 (.bool true) (by rfl))⟩,⟨(below_set HB.out HG.out)⟩⟩
  rw [if_neg c7] at H
  have d7:(kd == 7)=false:=beq_eq_false_iff_ne.mpr c7
  by_cases c6:kd=6
  ·rw [if_pos c6] at H
   subst c6
   have H':=am H
   clear H
   go_wp2
   go_meet
   case rel=>exact ⟨false,false,false,false,false,rfl,H',⟨HBX.out⟩,⟨HB.out⟩⟩
  rw [if_neg c6] at H
  have d6:(kd == 6)=false:=beq_eq_false_iff_ne.mpr c6
  obtain rfl:=Option.some.inj H
  go_wp2
  go_ret
  exact ⟨rfl,HB.out⟩
 case rest=>
  obtain ⟨nv,nb,ne,nd,no,rfl,HA,HX,HW⟩:=hcut
  have k1:=bN HW.out hg1
  have k2:=bN HW.out hg2
  have k3:=bN HW.out hg3
  have k4:=bN HW.out hg4
  have k5:=bN HW.out hg5
  have k6:=bN HW.out hg6
  have k7:=bN HW.out hg7
  have y0:wc.cell? ⟨gb,0,none⟩=some (.bool nv):=aN HX.out 0
  have y1:wc.cell? ⟨gb,1,none⟩=some (.bool nb):=aN HX.out 1
  have y2:wc.cell? ⟨gb,2,none⟩=some (.bool ne):=aN HX.out 2
  have y3:wc.cell? ⟨gb,3,none⟩=some (.bool nd):=aN HX.out 3
  have y4:wc.cell? ⟨gb,4,none⟩=some (.bool no):=aN HX.out 4
  clear k0 z0 z1 z2 z3 z4 f0 f1 f2 f3 f4 HBX HB hg0 hg1 hg2 hg3 hg4 hg5 hg6 hg7 HH
  go_upto_region 18 with fail
  (try simp only [Act.put,List.setIfInBounds_toArray,List.set_cons_zero,List.set_cons_succ])
  go_cut [69] from 37 (fun j6 wc_=>∃ (x:Bool),j6= .bool x∧Aside0 (∃ m,wc_=wc.drewN m)∧Aside0 (if x=true then r=false else (if ne=true then ((iG.f k op n la).bind fun t=>if t=true then some ((nd || lb == 0) && (no || le == 0)) else some false) else (if op=0 then (if n=0 then (if 0 < (la.length:Int) then some false else some ((nd || lb == 0) && (no || le == 0))) else some false) else some false))=some r))
  case first=>
   have H:=HA.out
   clear HA
   unfold mF at H
   by_cases i1:inr va 4 nv=true
   ·rw [if_pos i1] at H
    by_cases i2:inr bx boxes nb=true
    ·rw [if_pos i2] at H
     have I1:=am i1
     have I2:=am i2
     clear i1 i2
     by_cases i3:nb=true∧boxes≤bx
     ·rw [if_pos i3] at H
      obtain ⟨i4,i5⟩:=i3
      subst i4
      have i6:=eq_true i5
      have H':=am (Option.some.inj H)
      clear H i5
      go_big_quiet (first|(with_reducible refine Calls.quiet_of ((oK _ I1.out).mono (fun e w' hq=>⟨hq.1,hq.2.out⟩)))|(with_reducible refine Calls.quiet_of ((oK _ I2.out).mono (fun e w' hq=>⟨hq.1,hq.2.out⟩))))
      go_wp2
      go_meet
      case rel=>exact ⟨true,rfl,⟨_,rfl⟩,⟨by rw [if_pos rfl];exact H'.out.symm⟩⟩
     rw [if_neg i3] at H
     have H':=am H
     clear H
     cases nb with
     |false=>
      clear i3
      go_big_quiet (first|(with_reducible refine Calls.quiet_of ((oK _ I1.out).mono (fun e w' hq=>⟨hq.1,hq.2.out⟩)))|(with_reducible refine Calls.quiet_of ((oK _ I2.out).mono (fun e w' hq=>⟨hq.1,hq.2.out⟩))))
      go_wp2
      go_meet
      case rel=>exact ⟨false,rfl,⟨_,rfl⟩,⟨by rw [if_neg (by decide)];exact H'.out⟩⟩
     |true=>
      have i5:¬ boxes≤bx:=fun h=>i3 ⟨rfl,h⟩
      have i6:=eq_false i5
      clear i3 i5
      go_big_quiet (first|(with_reducible refine Calls.quiet_of ((oK _ I1.out).mono (fun e w' hq=>⟨hq.1,hq.2.out⟩)))|(with_reducible refine Calls.quiet_of ((oK _ I2.out).mono (fun e w' hq=>⟨hq.1,hq.2.out⟩))))
      go_wp2
      go_meet
      case rel=>exact ⟨false,rfl,⟨_,rfl⟩,⟨by rw [if_neg (by decide)];exact H'.out⟩⟩
    rw [if_neg i2] at H
    have I1:=am i1
    have I2:=am (Bool.eq_false_iff.mpr i2)
    clear i1 i2
    have H':=am (Option.some.inj H)
    clear H
    go_big_quiet (first|(with_reducible refine Calls.quiet_of ((oK _ I1.out).mono (fun e w' hq=>⟨hq.1,hq.2.out⟩)))|(with_reducible refine Calls.quiet_of ((oK _ I2.out).mono (fun e w' hq=>⟨hq.1,hq.2.out⟩))))
    go_wp2
    go_meet
    case rel=>exact ⟨true,rfl,⟨_,rfl⟩,⟨by rw [if_pos rfl];exact H'.out.symm⟩⟩
   rw [if_neg i1] at H
   have I1:=am (Bool.eq_false_iff.mpr i1)
   clear i1
   have H':=am (Option.some.inj H)
   clear H
   go_big_quiet (first|(with_reducible refine Calls.quiet_of ((oK _ I1.out).mono (fun e w' hq=>⟨hq.1,hq.2.out⟩))))
   go_wp2
   go_meet
   case rel=>exact ⟨true,rfl,⟨_,rfl⟩,⟨by rw [if_pos rfl];exact H'.out.symm⟩⟩
  case rest=>
   clear HA
   obtain ⟨x,rfl,⟨m,rfl⟩,HA⟩:=hcut
   cases x with
   |true=>
    have HA':=HA.out
    rw [if_pos rfl] at HA'
    subst HA'
    clear HA
    go_wp2
    go_ret
    exact ⟨rfl,aU HW.out _⟩
   |false=>
    have H:=HA.out
    rw [if_neg (by decide)] at H
    clear HA
    go_upto_region 20 with fail
    (try simp only [Act.put,List.setIfInBounds_toArray,List.set_cons_zero,List.set_cons_succ])
    go_cut [109] from 70 (fun j7 wd=>∃ (x:Bool),j7= .bool x∧Aside0 (Below w.heap.size w wd)∧Aside0 (Below wc.heap.size wc wd)∧Aside0 (if x=true then r=false else ((nd || lb == 0) && (no || le == 0))=r))
    case first=>
     cases ne with
     |true=>
      rw [if_pos rfl] at H
      obtain ⟨t,ht,H⟩:=bsm H
      have HE:=am ht
      have j5:=am (Kd.aT HR.out HW.out)
      clear ht
      cases t with
      |true=>
       rw [if_pos rfl] at H
       have H':=am (Option.some.inj H)
       clear H
       go_wp2_with (first|((with_reducible refine (iG.calls k op n Aa ca la _ _ ?side1 HC.out HE.out).mono ?_);(case side1=>repeat (first|exact j5.out|(with_reducible refine Kd.iR ?_ _)|(with_reducible refine Kd.kW ?_)));rintro e wq ⟨rfl,hb⟩;have y2q:wq.cell? ⟨gb,2,none⟩=some (.bool true):=bN (w:=wc.drewN m) hb y2;have HBE:=am (show Below wc.heap.size wc wq from (aU (Below.refl _ _) m).trans hb);clear hb;(try dsimp only))|fail)
       go_meet
       case rel=>exact ⟨false,rfl,⟨aA HW.out HBE.out⟩,⟨HBE.out⟩,⟨by rw [if_neg (by decide)];exact H'.out⟩⟩
      |false=>
       rw [if_neg (by decide)] at H
       have H':=am (Option.some.inj H)
       clear H
       go_wp2_with (first|((with_reducible refine (iG.calls k op n Aa ca la _ _ ?side1 HC.out HE.out).mono ?_);(case side1=>repeat (first|exact j5.out|(with_reducible refine Kd.iR ?_ _)|(with_reducible refine Kd.kW ?_)));rintro e wq ⟨rfl,hb⟩;have y2q:wq.cell? ⟨gb,2,none⟩=some (.bool true):=bN (w:=wc.drewN m) hb y2;have HBE:=am (show Below wc.heap.size wc wq from (aU (Below.refl _ _) m).trans hb);clear hb;(try dsimp only))|fail)
       go_meet
       case rel=>exact ⟨true,rfl,⟨aA HW.out HBE.out⟩,⟨HBE.out⟩,⟨by rw [if_pos rfl];exact H'.out.symm⟩⟩
     |false=>
      rw [if_neg (by decide)] at H
      by_cases j0:op=0
      ·rw [if_pos j0] at H
       by_cases j1:n=0
       ·rw [if_pos j1] at H
        subst j0
        subst j1
        by_cases j2:0 < (la.length:Int)
        ·rw [if_pos j2] at H
         have H':=am (Option.some.inj H)
         clear H
         have j3:=eq_true j2
         have j4:(0 < la.length)=True:=eq_true (by omega)
         clear j2
         go_wp2
         go_meet
         case rel=>exact ⟨true,sd_,⟨aU HW.out _⟩,⟨aU (Below.refl _ _) _⟩,⟨by rw [if_pos rfl];exact H'.out.symm⟩⟩
        rw [if_neg j2] at H
        have H':=am (Option.some.inj H)
        clear H
        have j3:=eq_false j2
        have j4:(0 < la.length)=False:=eq_false (by omega)
        clear j2
        go_wp2
        go_meet
        case rel=>exact ⟨false,sd_,⟨aU HW.out _⟩,⟨aU (Below.refl _ _) _⟩,⟨by rw [if_neg (by decide)];exact H'.out⟩⟩
       rw [if_neg j1] at H
       have H':=am (Option.some.inj H)
       clear H
       subst j0
       have j2:(n != 0)=true:=bne_iff_ne.mpr j1
       clear j1
       go_wp2
       go_meet
       case rel=>exact ⟨true,sd_,⟨aU HW.out _⟩,⟨aU (Below.refl _ _) _⟩,⟨by rw [if_pos rfl];exact H'.out.symm⟩⟩
      rw [if_neg j0] at H
      have H':=am (Option.some.inj H)
      clear H
      have j2:(op != 0)=true:=bne_iff_ne.mpr j0
      clear j0
      go_wp2
      go_meet
      case rel=>exact ⟨true,sd_,⟨aU HW.out _⟩,⟨aU (Below.refl _ _) _⟩,⟨by rw [if_pos rfl];exact H'.out.symm⟩⟩
    case rest=>
     clear H
     obtain ⟨x,rfl,HW2,HW3,HA⟩:=hcut
     cases x with
     |true=>
      have HA':=HA.out
      rw [if_pos rfl] at HA'
      subst HA'
      clear HA
      go_wp2
      go_ret
      exact ⟨rfl,HW2.out⟩
     |false=>
      have H:=HA.out
      rw [if_neg (by decide)] at H
      subst H
      have k6':=bN HW3.out k6
      have k7':=bN HW3.out k7
      have y3':=bN HW3.out y3
      have y4':=bN HW3.out y4
      clear HA k1 k2 k3 k4 k5 k6 k7 y0 y1 y2 y3 y4
      by_cases q6:lb=0
      ·have p6:((lb:Int) == 0)=true:=by rw [q6];rfl
       by_cases q7:le=0
       ·have p7:((le:Int) == 0)=true:=by rw [q7];rfl
        have Q6:=am q6
        have Q7:=am q7
        clear q6 q7
        cases nd <;> cases no <;> (go_wp2;go_ret;exact ⟨by simp [Q6.out,Q7.out],HW2.out⟩)
       have p7:((le:Int) == 0)=false:=beq_eq_false_iff_ne.mpr (by omega)
       have Q6:=am q6
       have Q7:=am q7
       clear q6 q7
       cases nd <;> cases no <;> (go_wp2;go_ret;exact ⟨by simp [Q6.out,Q7.out],HW2.out⟩)
      have p6:((lb:Int) == 0)=false:=beq_eq_false_iff_ne.mpr (by omega)
      have Q6:=am q6
      clear q6
      cases nd with
      |false=>
       go_wp2
       go_ret
       exact ⟨by simp [Q6.out],HW2.out⟩
      |true=>
       by_cases q7:le=0
       ·have p7:((le:Int) == 0)=true:=by rw [q7];rfl
        have Q7:=am q7
        clear q7
        cases no <;> (go_wp2;go_ret;exact ⟨by simp [p7,Q7.out],HW2.out⟩)
       have p7:((le:Int) == 0)=false:=beq_eq_false_iff_ne.mpr (by omega)
       have Q7:=am q7
       clear q7
       cases no <;> (go_wp2;go_ret;exact ⟨by simp [p7,Q7.out],HW2.out⟩)
end Go.Proofs.YtjamfkpgmkhbnaaGreatDoor.PA

