/- Part 3. -/
import Derived.Test.YthiegfpcfedbgaaQFnExactExprFold1
import Derived.Laws.BitsLemmas
set_option maxHeartbeats 8000000
set_option maxRecDepth 100000
namespace Go.Proofs.Ythiegfpcfedbgaa.PA
open Go.RowKit Go.Proofs.YthiegfpcfedbgaaW.PrintWords Go.Proofs.YthiegfpcfedbgaaW.PrintLast Go.Proofs.YthiegfpcfedbgaaW.PrintMore
attribute [local go_sem] max2_int min2_int max_two min_two max_three min_three max_four min_four
set_option linter.unusedVariables false
set_option linter.unusedSimpArgs false
theorem aI.mono_l:∀ k,(∀ y0 y1,LeO (aI.f k y0 y1) (aI.f (k + 1) y0 y1))∧(∀ y0 y1 y2,LeO (aI.l0 k y0 y1 y2) (aI.l0 (k + 1) y0 y1 y2))
 |0=>⟨fun _ _ r h=>by simp [aI.f] at h,fun _ _ _ r h=>by simp [aI.l0] at h⟩
 |k + 1=>by
  obtain ⟨ih0,ih1⟩:=aI.mono_l k
  refine ⟨?_,?_⟩
  ·intro y0 y1
   unfold aI.f
   exact mo_
  ·intro y0 y1 y2
   unfold aI.l0
   exact mo_
theorem aI.mono:∀ a0 a1 k,LeO (aI.f k a0 a1) (aI.f (k + 1) a0 a1):=by
 intro a0 a1 k
 obtain ⟨ih0,ih1⟩:=aI.mono_l k
 exact ih0 a0 a1
theorem aI.calls (k:Nat):∀ (A0:Option Addr) (c0:Nat) (l0:List (S28)) (a1:Int) (r:Int) (w:World) (hr0:Kd.C k28 w A0 l0.length l0) (hc0:l0.length≤c0) (h:aI.f k l0 a1=some r),
  Calls Try.prog 35 #[.slice A0 l0.length c0, .int .i64 a1] w fun e w'=>e= .returned (.int .i64 r)∧dK w w':=by
 induction k using Nat.strongRecOn with
 | _ k ih=>
 intro A0 c0 l0 a1 r w hr0 hc0 h
 cases k with
 |zero=>exact absurd h (by simp [aI.f])
 |succ k=>
 simp only [aI.f] at h
 have jq:=am hr0
 have jM:=am hc0
 clear hr0 hc0
 have H:(aI.l0 k l0 a1 0)=some r:=h
 clear h
 have H':=am H
 clear H
 go_enter Try.func35,Try.ntmps35
 go_wp2
 go_loopg [1,5] k (fun kq v1 v5 w'=>∃ (j4:Int) (j3:Int),v1= .int .i64 j4∧v5= .int .i64 j3∧Aside0 (aI.l0 kq l0 j4 j3=some r)∧Aside0 (kq≤k)∧dK w w')
 case atStart=>exact ⟨(a1),(0),sd_,sd_,H',⟨Nat.le_refl _⟩,dD⟩
 case round=>
  clear H'
  obtain ⟨j4,j3,rfl,rfl,HA,jD,⟨m1,rfl⟩⟩:=hrel
  cases gk with
  |zero=>exact absurd HA.out (by simp [aI.l0])
  |succ k1=>
   have H:=HA.out
   clear HA
   simp only [aI.l0] at H
   by_cases c3:j3 < (l0.length:Int)
   ·rw [if_pos c3] at H
    have jE:decide (j3 < (l0.length:Int))=true:=decide_eq_true c3
    clear c3
    by_cases c4:0≤j3
    ·rw [if_pos c4] at H
     have jL:decide (0≤j3)=true:=decide_eq_true c4
     clear c4
     by_cases c5:((aH l0 j3).f0)=j4
     ·rw [if_pos c5] at H
      have jF:(((aH l0 j3).f0) == j4)=true:=beq_iff_eq.mpr c5
      have jG:(((aH l0 j3).f0) != j4)=false:=bne_eq_false_iff_eq.mpr c5
      clear c5
      by_cases c6:((aH l0 j3).f1)=(wrap64 (j4 + 1))
      ·rw [if_pos c6] at H
       have jH:(((aH l0 j3).f1) == (wrap64 (j4 + 1)))=true:=beq_iff_eq.mpr c6
       have jI:(((aH l0 j3).f1) != (wrap64 (j4 + 1)))=false:=bne_eq_false_iff_eq.mpr c6
       clear c6
       obtain ⟨jz,A7,H⟩:=bsa H
       (try dsimp only at H)
       by_cases c8:jz < 0
       ·rw [if_pos c8] at H
        have jJ:decide (jz < 0)=true:=decide_eq_true c8
        clear c8
        obtain rfl:=Option.some.inj H
        have ja:0≤(j3:Int):=of_decide_eq_true eT
        have jb:j3 < (l0.length:Int):=of_decide_eq_true eT
        obtain ⟨j7,j8,j9,jt,jc,jd,j5,hl21_2,hi21_2⟩:=dU jq.out j3 ja jb
        cases jt
        have je:=am hi21_2
        have jf:=am hl21_2
        clear hi21_2 hl21_2
        replace ja:=eq_true ja
        replace jb:=eq_true jb
        have jj:0≤(j3:Int):=of_decide_eq_true eT
        have jk:j3 < (l0.length:Int):=of_decide_eq_true eT
        obtain ⟨jl,jr,js,jA,jm,jn,j6,hl22_2,hi22_2⟩:=dU jq.out j3 jj jk
        obtain rfl:j7=jl:=(by injection jA)
        have jo:=am hi22_2
        have jp:=am hl22_2
        clear hi22_2 hl22_2
        replace jj:=eq_true jj
        replace jk:=eq_true jk
        have ea_:=Option.some.inj (j5.symm.trans j6)
        injection ea_ with ea_ en_ ec_
        subst ea_
        subst ec_
        clear en_
        have ju:0≤(j3:Int):=of_decide_eq_true eT
        have jv:j3 < (l0.length:Int):=of_decide_eq_true eT
        obtain ⟨jw,jB,jC,jK,jx,jy,jg,hl23_2,hi23_2⟩:=dU jq.out j3 ju jv
        obtain rfl:j7=jw:=(by injection jK)
        have jh:=am hi23_2
        have ji:=am hl23_2
        clear hi23_2 hl23_2
        replace ju:=eq_true ju
        replace jv:=eq_true jv
        have ea_:=Option.some.inj (j5.symm.trans jg)
        injection ea_ with ea_ en_ ec_
        subst ea_
        subst ec_
        clear en_
        go_wp2_with (first|((with_reducible refine aC (f:=35) rfl ?_);refine aP (some 36) rfl rfl Try.func35 (by kernel_rfl) rfl #[.slice j8 ((aH l0 j3).f2).length j9, .int .i64 (wrap64 ((wrap64 (j4 + 1)) + 1))] rfl bY ?_;(with_reducible refine (ih k1 (by have:=jD.out;omega) _ _ ((aH l0 j3).f2) (wrap64 ((wrap64 (j4 + 1)) + 1)) jz _ (aC_ jh.out) ji.out A7.out).mono ?_);rintro e w' ⟨rfl,⟨nd,rfl⟩⟩;refine ⟨_,rfl,?_⟩))
        go_ret
        exact ⟨sd_,dD⟩
       rw [if_neg c8] at H
       have jJ:decide (jz < 0)=false:=decide_eq_false c8
       clear c8
       have H':=am H
       clear H
       have ja:0≤(j3:Int):=of_decide_eq_true eT
       have jb:j3 < (l0.length:Int):=of_decide_eq_true eT
       obtain ⟨j7,j8,j9,jt,jc,jd,j5,hl21_2,hi21_2⟩:=dU jq.out j3 ja jb
       cases jt
       have je:=am hi21_2
       have jf:=am hl21_2
       clear hi21_2 hl21_2
       replace ja:=eq_true ja
       replace jb:=eq_true jb
       have jj:0≤(j3:Int):=of_decide_eq_true eT
       have jk:j3 < (l0.length:Int):=of_decide_eq_true eT
       obtain ⟨jl,jr,js,jA,jm,jn,j6,hl22_2,hi22_2⟩:=dU jq.out j3 jj jk
       obtain rfl:j7=jl:=(by injection jA)
       have jo:=am hi22_2
       have jp:=am hl22_2
       clear hi22_2 hl22_2
       replace jj:=eq_true jj
       replace jk:=eq_true jk
       have ea_:=Option.some.inj (j5.symm.trans j6)
       injection ea_ with ea_ en_ ec_
       subst ea_
       subst ec_
       clear en_
       have ju:0≤(j3:Int):=of_decide_eq_true eT
       have jv:j3 < (l0.length:Int):=of_decide_eq_true eT
       obtain ⟨jw,jB,jC,jK,jx,jy,jg,hl23_2,hi23_2⟩:=dU jq.out j3 ju jv
       obtain rfl:j7=jw:=(by injection jK)
       have jh:=am hi23_2
       have ji:=am hl23_2
       clear hi23_2 hl23_2
       replace ju:=eq_true ju
       replace jv:=eq_true jv
       have ea_:=Option.some.inj (j5.symm.trans jg)
       injection ea_ with ea_ en_ ec_
       subst ea_
       subst ec_
       clear en_
       go_wp2_with (first|((with_reducible refine aC (f:=35) rfl ?_);refine aP (some 36) rfl rfl Try.func35 (by kernel_rfl) rfl #[.slice j8 ((aH l0 j3).f2).length j9, .int .i64 (wrap64 ((wrap64 (j4 + 1)) + 1))] rfl bY ?_;(with_reducible refine (ih k1 (by have:=jD.out;omega) _ _ ((aH l0 j3).f2) (wrap64 ((wrap64 (j4 + 1)) + 1)) jz _ (aC_ jh.out) ji.out A7.out).mono ?_);rintro e w' ⟨rfl,⟨nd,rfl⟩⟩;refine ⟨_,rfl,?_⟩))
       go_roundg k1
       case measure=>have:=jD.out;omega
       case rel=>exact ⟨(jz),(wrap64 (j3 + 1)),sd_,sd_,H',⟨by have:=jD.out;omega⟩,dD⟩
      rw [if_neg c6] at H
      have jH:(((aH l0 j3).f1) == (wrap64 (j4 + 1)))=false:=beq_eq_false_iff_ne.mpr c6
      have jI:(((aH l0 j3).f1) != (wrap64 (j4 + 1)))=true:=bne_iff_ne.mpr c6
      obtain rfl:=Option.some.inj H
      have ja:0≤(j3:Int):=of_decide_eq_true eT
      have jb:j3 < (l0.length:Int):=of_decide_eq_true eT
      obtain ⟨j7,j8,j9,jt,jc,jd,j5,hl21_2,hi21_2⟩:=dU jq.out j3 ja jb
      cases jt
      have je:=am hi21_2
      have jf:=am hl21_2
      clear hi21_2 hl21_2
      replace ja:=eq_true ja
      replace jb:=eq_true jb
      have jj:0≤(j3:Int):=of_decide_eq_true eT
      have jk:j3 < (l0.length:Int):=of_decide_eq_true eT
      obtain ⟨jl,jr,js,jA,jm,jn,j6,hl22_2,hi22_2⟩:=dU jq.out j3 jj jk
      obtain rfl:j7=jl:=(by injection jA)
      have jo:=am hi22_2
      have jp:=am hl22_2
      clear hi22_2 hl22_2
      replace jj:=eq_true jj
      replace jk:=eq_true jk
      have ea_:=Option.some.inj (j5.symm.trans j6)
      injection ea_ with ea_ en_ ec_
      subst ea_
      subst ec_
      clear en_
      go_wp2
      go_ret
      exact ⟨sd_,dD⟩
     rw [if_neg c5] at H
     have jF:(((aH l0 j3).f0) == j4)=false:=beq_eq_false_iff_ne.mpr c5
     have jG:(((aH l0 j3).f0) != j4)=true:=bne_iff_ne.mpr c5
     obtain rfl:=Option.some.inj H
     have ja:0≤(j3:Int):=of_decide_eq_true eT
     have jb:j3 < (l0.length:Int):=of_decide_eq_true eT
     obtain ⟨j7,j8,j9,jt,jc,jd,j5,hl21_2,hi21_2⟩:=dU jq.out j3 ja jb
     cases jt
     have je:=am hi21_2
     have jf:=am hl21_2
     clear hi21_2 hl21_2
     replace ja:=eq_true ja
     replace jb:=eq_true jb
     go_wp2
     go_ret
     exact ⟨sd_,dD⟩
    rw [if_neg c4] at H
    exact absurd H (by simp)
   rw [if_neg c3] at H
   have jE:decide (j3 < (l0.length:Int))=false:=decide_eq_false c3
   clear c3
   obtain rfl:=Option.some.inj H
   go_wp2
   go_ret
   exact ⟨sd_,dD⟩
theorem bZ.mono:∀ a0 a1 a2 a3 k,LeO (bZ.f k a0 a1 a2 a3) (bZ.f (k + 1) a0 a1 a2 a3):=by
 intro a0 a1 a2 a3 k
 unfold bZ.f
 have m0:=@aI.mono
 exact mo_
theorem bZ.calls (k:Nat) (j6:Int) (j7:Int) (j4:Option Addr) (j5:Nat) (j3:List (S28)) (a1:Int) (r:Int) (w:World) (hr0_2:Kd.C k28 w j4 j3.length j3) (hc0_2:j3.length≤j5) (h:bZ.f k j6 j7 j3 a1=some r):
  Calls Try.prog 12 #[.agg #[.int .i64 j6, .int .i64 j7, .slice j4 j3.length j5], .int .i64 a1] w fun e w'=>e= .returned (.int .i64 r)∧Below w.heap.size w w':=by
 have hu28:=Try.underlying28
 have j9:=am hr0_2
 have ja:=am hc0_2
 clear hr0_2 hc0_2
 have HB:=am (Below.refl w.heap.size w)
 have H:((aI.f k j3 a1).bind fun j8=>(if j8 < 0 then (some (-1)) else (some j8)))=some r:=h
 clear h
 obtain ⟨j8,A3,H⟩:=bsa H
 (try dsimp only at H)
 have HH_:=am H
 clear H
 go_enter Try.func12,Try.ntmps12
 go_upto_region 2 with (first|((with_reducible refine aV (N:=2) rfl ?_);refine aY rfl (N:=2) rfl (cs:=#[.int .i64 j6, .int .i64 j7, .slice j4 j3.length j5]) (t:=28) rn_ ?_;intro jb hg w5 hbox hb;have jc:=am (hbox);have jk:=am ((by rw [hg];exact (aJ dO):w.heap.size≤jb));have GE21:=am ((by rw [hg];exact (aJ dO):w.heap.size≤jb));replace HB:=am (aF dO hb);clear hb hbox hg;obtain ⟨jd,je,jf,jg,jh,ji⟩:=bQ jc.out)|((with_reducible refine aC (f:=35) rfl ?_);refine aP (some 8) rfl rfl Try.func35 (by kernel_rfl) rfl #[.slice j4 j3.length j5, .int .i64 a1] rfl bY ?_;(with_reducible refine (aI.calls k _ _ j3 a1 j8 _ (aC_ (Kd.bA j9.out HB.out)) ja.out A3.out).mono ?_);rintro e w' ⟨rfl,⟨nd,rfl⟩⟩;refine ⟨_,rfl,?_⟩))
 have H:=HH_.out
 clear HH_
 by_cases c4:j8 < 0
 ·rw [if_pos c4] at H
  have jj:decide (j8 < 0)=true:=decide_eq_true c4
  clear c4
  obtain rfl:=Option.some.inj H
  go_wp2
  go_ret
  exact ⟨rr_,iV⟩
 rw [if_neg c4] at H
 have jj:decide (j8 < 0)=false:=decide_eq_false c4
 clear c4
 obtain rfl:=Option.some.inj H
 go_wp2
 go_ret
 exact ⟨rr_,iV⟩
attribute [local go_sem] max2_int min2_int max_two min_two max_three min_three max_four min_four
set_option linter.unusedVariables false
set_option linter.unusedSimpArgs false
set_option linter.unusedVariables false
structure tL (W0:World) (xl:List (S28)) (A43:Option Addr) (c43:Nat) (b2:Bool) (W:World):Prop where
 hB:Below W0.heap.size W0 W
 hC:b2=true→Kd.C k28 W A43 xl.length xl∧xl.length≤c43
def dQ (W0:World) (d1 d4 d6 d7:Nat) (left:Int) (gb:Bool) (a0 a1:Int) (A:Option Addr) (c:Nat) (l:List (S24)) (x0 x1:Int) (Ax:Option Addr) (cx:Nat) (xl:List (S28)) (v0 v1:Int) (Av:Option Addr) (cv:Nat) (vl:List (S28)) (g0 g1:Int) (Ag:Option Addr) (cg:Nat) (gl:List (S28)) (Ay:Option Addr) (cy:Nat) (A43:Option Addr) (c43:Nat) (b0 b1 b2 b3 b4:Bool):Act:=
 { tmps:=#[(.agg #[(.int .i64 a0),(.int .i64 a1),(.slice A l.length c)]),(.pointer (some ⟨d1,0,none⟩)),(.bool false),(.int .i64 left),(.pointer (some ⟨d4,0,none⟩)),(.bool gb),(.pointer (some ⟨d6,0,none⟩)),(.pointer (some ⟨d7,0,none⟩)),(.bool gb),undef,undef,undef,undef,undef,(.agg #[(.int .i64 a0),(.int .i64 a1),(.slice A l.length c)]),(.int .i64 1048576),(.int .i64 left),(.int .i64 left),(.bool false),(.tuple #[(.agg #[(.int .i64 v0),(.int .i64 v1),(.slice Av vl.length cv)]), .bool gb]),(.agg #[(.int .i64 a0),(.int .i64 a1),(.slice A l.length c)]),(.agg #[(.int .i64 x0),(.int .i64 x1),(.slice Ay xl.length cy)]),(.tuple #[(.agg #[(.int .i64 v0),(.int .i64 v1),(.slice Av vl.length cv)]), .bool gb]),(.agg #[(.int .i64 v0),(.int .i64 v1),(.slice Av vl.length cv)]),(.bool gb),(.agg #[(.int .i64 a0),(.int .i64 a1),(.slice A l.length c)]),(.agg #[(.int .i64 x0),(.int .i64 x1),(.slice Ax xl.length cx)]),(.tuple #[(.agg #[(.int .i64 g0),(.int .i64 g1),(.slice Ag gl.length cg)]), .bool gb]),(.agg #[(.int .i64 x0),(.int .i64 x1),(.slice Ax xl.length cx)]),(.tuple #[(.agg #[(.int .i64 g0),(.int .i64 g1),(.slice Ag gl.length cg)]), .bool gb]),(.agg #[(.int .i64 g0),(.int .i64 g1),(.slice Ag gl.length cg)]),(.bool gb),(.agg #[(.int .i64 g0),(.int .i64 g1),(.slice Ag gl.length cg)]),(.agg #[(.int .i64 v0),(.int .i64 v1),(.slice Av vl.length cv)]),(.bool true),(.bool false),(.bool false),(.bool gb),(.bool gb),(.bool false),(.bool false),cond b0 (.agg #[(.int .i64 x0),(.int .i64 x1),(.slice Ax xl.length cx)]) undef,cond b1 (.agg #[(.int .i64 a0),(.int .i64 a1),(.slice A l.length c)]) undef,cond b2 (.agg #[(.int .i64 x0),(.int .i64 x1),(.slice A43 xl.length c43)]) undef,cond b3 (.bool true) undef,cond b4 (.bool false) undef,undef,undef,undef,undef,undef,undef,undef,undef,undef,undef,undef,undef,undef,undef,undef,undef,undef,undef,undef,undef,undef,undef,undef,undef,undef,undef,undef,undef,undef,undef,undef,undef,undef,undef,undef,undef,undef,undef,undef,undef,undef,undef,undef,undef,undef,undef,undef,undef,undef,undef],defers:=[] }
def nP (W0:World) (d1 d4 d6 d7:Nat) (left:Int) (gb:Bool) (a0 a1:Int) (A:Option Addr) (c:Nat) (l:List (S24)) (x0 x1:Int) (Ax:Option Addr) (cx:Nat) (xl:List (S28)) (v0 v1:Int) (Av:Option Addr) (cv:Nat) (vl:List (S28)) (g0 g1:Int) (Ag:Option Addr) (cg:Nat) (gl:List (S28)) (Ay:Option Addr) (cy:Nat) (b0 b1 b2 b3 b4:Bool) (a:Act) (W:World):Prop:=
 ∃ (A43:Option Addr) (c43:Nat),a=dQ W0 d1 d4 d6 d7 left gb a0 a1 A c l x0 x1 Ax cx xl v0 v1 Av cv vl g0 g1 Ag cg gl Ay cy A43 c43 b0 b1 b2 b3 b4∧tL W0 xl A43 c43 b2 W
theorem bL.calls (k:Nat) (a0 a1:Int) (A:Option Addr) (c:Nat) (l:List (S24)) (r:Bool) (w:World) (hr:Kd.C k24 w A l.length l) (hl:l.length≤c) (h:bL.f k a0 a1 l=some r):
  Calls Try.prog 3 #[(.agg #[(.int .i64 a0),(.int .i64 a1),(.slice A l.length c)])] w fun e w'=>e= .returned (.bool r)∧Below w.heap.size w w':=by
 unfold bL.f at h
 replace h:=Option.bind_eq_some_iff.mp h
 obtain ⟨left,hsz,h⟩:=h
 have HR:=am hr
 have HL:=am hl
 clear hr hl
 have HSZ:=am hsz
 have HB:=am (Below.refl w.heap.size w)
 clear hsz
 by_cases hlt:left < 0
 case pos=>
  rw [if_pos hlt] at h
  obtain rfl:=Option.some.inj h
  have c1:decide (left < 0)=true:=decide_eq_true hlt
  clear hlt
  go_enter Try.func3,Try.ntmps3
  go_wp2_with (first|((with_reducible refine aV (N:=1) rfl ?_);refine aY rfl (N:=1) rfl (cs:=#[(.int .i64 a0),(.int .i64 a1),(.slice A l.length c)]) (t:=24) rn_ ?_;intro d1 hg w1 hbox hb;have B1:=am hbox;replace HB:=am hb;clear hbox hg hb;have zB1_0:w1.cell? ⟨d1,0,none⟩=some (.int .i64 a0):=aA B1.out 0;have zB1_1:w1.cell? ⟨d1,1,none⟩=some (.int .i64 a1):=aA B1.out 1;have zB1_2:w1.cell? ⟨d1,2,none⟩=some (.slice A l.length c):=aA B1.out 2)|((with_reducible refine aC (f:=6) rfl ?_);refine aP (some 16) rfl rfl Try.func6 (by kernel_rfl) rfl #[(.agg #[(.int .i64 a0),(.int .i64 a1),(.slice A l.length c)]), .int .i64 1048576] rfl (by (try simp only [List.map_toArray,List.map_cons,List.map_nil]);first|done|rfl) ?_;(with_reducible refine (aT.calls k a0 a1 _ _ l 1048576 left _ (Kd.bA HR.out HB.out) HL.out HSZ.out).mono ?_);rintro e w2 ⟨rfl,hb⟩;refine ⟨_,rfl,?_⟩;replace B1:=am (aB B1.out hb);replace HB:=am (aF HB.out hb);clear hb zB1_0 zB1_1 zB1_2;have zB1_0:w2.cell? ⟨d1,0,none⟩=some (.int .i64 a0):=aA B1.out 0;have zB1_1:w2.cell? ⟨d1,1,none⟩=some (.int .i64 a1):=aA B1.out 1;have zB1_2:w2.cell? ⟨d1,2,none⟩=some (.slice A l.length c):=aA B1.out 2)|fail)
  go_ret
  exact ⟨rfl,HB.out⟩
 rw [if_neg hlt] at h
 have c1:decide (left < 0)=false:=decide_eq_false hlt
 clear hlt
 replace h:=Option.bind_eq_some_iff.mp h
 obtain ⟨⟨x0,x1,xl⟩,h_,h⟩:=h
 (try dsimp only at h_ h)
 have HTO:=am h_
 clear h_
 replace h:=Option.bind_eq_some_iff.mp h
 obtain ⟨⟨v0,v1,vl,wb⟩,h_,h⟩:=h
 (try dsimp only at h_ h)
 have HSP:=am h_
 clear h_
 replace h:=Option.bind_eq_some_iff.mp h
 obtain ⟨⟨g0,g1,gl,gb⟩,h_,h⟩:=h
 (try dsimp only at h_ h)
 have HIM:=am h_
 clear h_
 replace h:=Option.bind_eq_some_iff.mp h
 obtain ⟨e1,h_,h⟩:=h
 (try dsimp only at h_ h)
 have HE1:=am h_
 clear h_
 by_cases q1:e1=false
 case pos=>rw [if_pos q1] at h;exact absurd h (by simp)
 rw [if_neg q1] at h
 obtain rfl:e1=true:=by simpa using q1
 by_cases q2:gb≠wb
 case pos=>rw [if_pos q2] at h;exact absurd h (by simp)
 rw [if_neg q2] at h
 obtain rfl:gb=wb:=by simpa using q2
 replace h:=Option.bind_eq_some_iff.mp h
 obtain ⟨e2,h_,h⟩:=h
 (try dsimp only at h_ h)
 have HE2:=am h_
 clear h_
 by_cases q3:e2=false
 case pos=>rw [if_pos q3] at h;exact absurd h (by simp)
 rw [if_neg q3] at h
 obtain rfl:e2=true:=by simpa using q3
 replace h:=Option.bind_eq_some_iff.mp h
 obtain ⟨⟨m1,nl⟩,h_,h⟩:=h
 (try dsimp only at h_ h)
 have HM1:=am h_
 clear h_
 by_cases q4:m1 < 0
 case pos=>rw [if_pos q4] at h;exact absurd h (by simp)
 rw [if_neg q4] at h
 replace h:=Option.bind_eq_some_iff.mp h
 obtain ⟨⟨m,pl⟩,h_,h⟩:=h
 (try dsimp only at h_ h)
 have HM:=am h_
 clear h_
 replace h:=Option.bind_eq_some_iff.mp h
 obtain ⟨q,h_,h⟩:=h
 (try dsimp only at h_ h)
 have HQ:=am h_
 clear h_
 by_cases q5:q < 0
 case pos=>rw [if_pos q5] at h;exact absurd h (by simp)
 rw [if_neg q5] at h
 by_cases q6:q≠m
 case pos=>rw [if_pos q6] at h;exact absurd h (by simp)
 rw [if_neg q6] at h
 obtain rfl:q=m:=by simpa using q6
 obtain rfl:=Option.some.inj h
 have c2:decide (m1 < 0)=false:=decide_eq_false q4
 have c3:decide (q < 0)=false:=decide_eq_false q5
 have c4:(q != q)=false:=by simp
 have c5:(gb != gb)=false:=by simp
 clear q1 q2 q3 q4 q5 q6 h
 go_enter Try.func3,Try.ntmps3
 go_upto_region 6 with (first|((with_reducible refine aV (N:=1) rfl ?_);refine aY rfl (N:=1) rfl (cs:=#[(.int .i64 a0),(.int .i64 a1),(.slice A l.length c)]) (t:=24) rn_ ?_;intro d1 hg w1 hbox hb;have B1:=am hbox;replace HB:=am hb;clear hbox hg hb;have zB1_0:w1.cell? ⟨d1,0,none⟩=some (.int .i64 a0):=aA B1.out 0;have zB1_1:w1.cell? ⟨d1,1,none⟩=some (.int .i64 a1):=aA B1.out 1;have zB1_2:w1.cell? ⟨d1,2,none⟩=some (.slice A l.length c):=aA B1.out 2)|((with_reducible refine aC (f:=6) rfl ?_);refine aP (some 16) rfl rfl Try.func6 (by kernel_rfl) rfl #[(.agg #[(.int .i64 a0),(.int .i64 a1),(.slice A l.length c)]), .int .i64 1048576] rfl (by (try simp only [List.map_toArray,List.map_cons,List.map_nil]);first|done|rfl) ?_;(with_reducible refine (aT.calls k a0 a1 _ _ l 1048576 left _ (Kd.bA HR.out HB.out) HL.out HSZ.out).mono ?_);rintro e w2 ⟨rfl,hb⟩;refine ⟨_,rfl,?_⟩;replace B1:=am (aB B1.out hb);replace HB:=am (aF HB.out hb);clear hb zB1_0 zB1_1 zB1_2;have zB1_0:w2.cell? ⟨d1,0,none⟩=some (.int .i64 a0):=aA B1.out 0;have zB1_1:w2.cell? ⟨d1,1,none⟩=some (.int .i64 a1):=aA B1.out 1;have zB1_2:w2.cell? ⟨d1,2,none⟩=some (.slice A l.length c):=aA B1.out 2)|((with_reducible refine aC (f:=8) rfl ?_);refine aP (some 21) rfl rfl Try.func8 (by kernel_rfl) rfl #[(.agg #[(.int .i64 a0),(.int .i64 a1),(.slice A l.length c)])] rfl (by (try simp only [List.map_toArray,List.map_cons,List.map_nil]);first|done|rfl) ?_;(with_reducible refine (bD.callsS k a0 a1 _ _ l x0 x1 xl _ (Kd.bA HR.out HB.out) HL.out HTO.out).mono ?_);rintro e w3 ⟨v,rfl,h0,hb⟩;refine ⟨_,rfl,?_⟩;obtain ⟨Ay,cy,rfl⟩:=Kd.dW h0;have Ry:=am h0;clear zB1_0 zB1_1 zB1_2;replace B1:=am (aB B1.out hb);replace HB:=am (aF HB.out hb);clear h0 hb)|((with_reducible refine aC (f:=7) rfl ?_);refine aP (some 22) rfl rfl Try.func7 (by kernel_rfl) rfl #[(.agg #[(.int .i64 x0),(.int .i64 x1),(.slice Ay xl.length cy)])] rfl (by (try simp only [List.map_toArray,List.map_cons,List.map_nil]);first|done|rfl) ?_;(with_reducible refine (bJ.calls k x0 x1 _ _ xl v0 v1 vl gb _ (Kd.bK (dY Ry.out)).2.2 (Kd.bK (dY Ry.out)).2.1 HSP.out).mono ?_);rintro e w4 ⟨v,rfl,h0,hb⟩;refine ⟨_,rfl,?_⟩;obtain ⟨Av,cv,rfl⟩:=Kd.gT h0;have Rv:=am (Kd.iI (Kd.oD h0) HB.out.size);replace B1:=am (aB B1.out hb);replace HB:=am (aF HB.out hb);clear h0 hb Ry)|fail)
 have hb:Below w4.heap.size w4 (w4.alloc (.cells #[(.int .i64 v0),(.int .i64 v1),(.slice Av vl.length cv)] 28)):=bB (Below.refl _ _) _
 have B4:=am (lN w4 (.cells #[(.int .i64 v0),(.int .i64 v1),(.slice Av vl.length cv)] 28))
 replace B1:=am (aB B1.out hb)
 replace Rv:=am (Kd.dI Rv.out hb)
 replace HB:=am (aF HB.out hb)
 clear hb
 generalize w4.alloc (.cells #[(.int .i64 v0),(.int .i64 v1),(.slice Av vl.length cv)] 28)=w5 at B1 Rv B4 HB ⊢
 generalize w4.heap.size=d4 at B4 ⊢
 obtain ⟨s2,es2⟩:∃ s,s=w5.heap.size:=⟨_,rfl⟩
 have T2:Aside0 (d1 < s2∧d4 < s2):=⟨by rw [es2];exact ⟨bG B1.out,bG B4.out⟩⟩
 replace Rv:=am (Kd.bT (ok':=fun q=>q < s2) (Kd.oD Rv.out) (fun q hq=>by rw [es2];exact hq.2))
 have zB1_0:w5.cell? ⟨d1,0,none⟩=some (.int .i64 a0):=aA B1.out 0
 have zB1_1:w5.cell? ⟨d1,1,none⟩=some (.int .i64 a1):=aA B1.out 1
 have zB1_2:w5.cell? ⟨d1,2,none⟩=some (.slice A l.length c):=aA B1.out 2
 go_upto_region 7 with (first|((with_reducible refine aC (f:=8) rfl ?_);refine aP (some 26) rfl rfl Try.func8 (by kernel_rfl) rfl #[(.agg #[(.int .i64 a0),(.int .i64 a1),(.slice A l.length c)])] rfl (by (try simp only [List.map_toArray,List.map_cons,List.map_nil]);first|done|rfl) ?_;(with_reducible refine (bD.callsS k a0 a1 _ _ l x0 x1 xl _ (Kd.bA HR.out HB.out) HL.out HTO.out).mono ?_);rintro e w6 ⟨v,rfl,h0,hb⟩;refine ⟨_,rfl,?_⟩;obtain ⟨Ax,cx,rfl⟩:=Kd.dW h0;have T3:Aside0 (s2≤w6.heap.size):=⟨by rw [es2];exact hb.size⟩;have Rx:=am (Kd.dB (ok':=fun q=>s2≤q∧q < w6.heap.size) (Kd.gF (Kd.fK h0) HB.out.size) (fun q hq=>⟨by rw [es2];exact hq.1,hq.2.2.1⟩));clear zB1_0 zB1_1 zB1_2 es2;replace B1:=am (aB B1.out hb);replace Rv:=am (Kd.dI Rv.out hb);replace B4:=am (aB B4.out hb);replace HB:=am (aF HB.out hb);clear h0 hb)|fail)
 have hb:Below w6.heap.size w6 (w6.alloc (.cells #[(.int .i64 x0),(.int .i64 x1),(.slice Ax xl.length cx)] 28)):=bB (Below.refl _ _) _
 have B6:=am (lN w6 (.cells #[(.int .i64 x0),(.int .i64 x1),(.slice Ax xl.length cx)] 28))
 replace B1:=am (aB B1.out hb)
 replace Rv:=am (Kd.dI Rv.out hb)
 replace B4:=am (aB B4.out hb)
 replace Rx:=am (Kd.bM Rx.out hb)
 replace HB:=am (aF HB.out hb)
 clear hb
 generalize w6.alloc (.cells #[(.int .i64 x0),(.int .i64 x1),(.slice Ax xl.length cx)] 28)=w7 at B1 Rv B4 Rx B6 HB ⊢
 generalize w6.heap.size=d6 at B6 T3 Rx ⊢
 obtain ⟨s4,es4⟩:∃ s,s=w7.heap.size:=⟨_,rfl⟩
 have T4:Aside0 (d6 < s4):=⟨by rw [es4];exact bG B6.out⟩
 have zB6_0:w7.cell? ⟨d6,0,none⟩=some (.int .i64 x0):=aA B6.out 0
 have zB6_1:w7.cell? ⟨d6,1,none⟩=some (.int .i64 x1):=aA B6.out 1
 have zB6_2:w7.cell? ⟨d6,2,none⟩=some (.slice Ax xl.length cx):=aA B6.out 2
 go_upto_region 8 with (first|((with_reducible refine aC (f:=9) rfl ?_);refine aP (some 29) rfl rfl Try.func9 (by kernel_rfl) rfl #[(.agg #[(.int .i64 x0),(.int .i64 x1),(.slice Ax xl.length cx)])] rfl (by (try simp only [List.map_toArray,List.map_cons,List.map_nil]);first|done|rfl) ?_;(with_reducible refine (bV.callsS k x0 x1 _ _ xl g0 g1 gl gb _ (Kd.bK (dY Rx.out)).2.2 (Kd.bK (dY Rx.out)).2.1 HIM.out).mono ?_);rintro e w8 ⟨v,rfl,h0,hb⟩;refine ⟨_,rfl,?_⟩;obtain ⟨Ag,cg,rfl⟩:=Kd.dW h0;have T5:Aside0 (s4≤w8.heap.size):=⟨by rw [es4];exact hb.size⟩;have Rg:=am (Kd.dB (ok':=fun q=>s4≤q∧q < w8.heap.size) (Kd.gF (Kd.fK h0) HB.out.size) (fun q hq=>⟨by rw [es4];exact hq.1,hq.2.2.1⟩));clear zB6_0 zB6_1 zB6_2 es4;replace B1:=am (aB B1.out hb);replace Rv:=am (Kd.dI Rv.out hb);replace B4:=am (aB B4.out hb);replace Rx:=am (Kd.bM Rx.out hb);replace B6:=am (aB B6.out hb);replace HB:=am (aF HB.out hb);clear h0 hb)|fail)
 have hb:Below w8.heap.size w8 (w8.alloc (.cells #[(.int .i64 g0),(.int .i64 g1),(.slice Ag gl.length cg)] 28)):=bB (Below.refl _ _) _
 have B7:=am (lN w8 (.cells #[(.int .i64 g0),(.int .i64 g1),(.slice Ag gl.length cg)] 28))
 replace B1:=am (aB B1.out hb)
 replace Rv:=am (Kd.dI Rv.out hb)
 replace B4:=am (aB B4.out hb)
 replace Rx:=am (Kd.bM Rx.out hb)
 replace B6:=am (aB B6.out hb)
 replace Rg:=am (Kd.bM Rg.out hb)
 replace HB:=am (aF HB.out hb)
 clear hb
 generalize w8.alloc (.cells #[(.int .i64 g0),(.int .i64 g1),(.slice Ag gl.length cg)] 28)=w9 at B1 Rv B4 Rx B6 Rg B7 HB ⊢
 generalize w8.heap.size=d7 at B7 T5 Rg ⊢
 have zB7_0:w9.cell? ⟨d7,0,none⟩=some (.int .i64 g0):=aA B7.out 0
 have zB7_1:w9.cell? ⟨d7,1,none⟩=some (.int .i64 g1):=aA B7.out 1
 have zB7_2:w9.cell? ⟨d7,2,none⟩=some (.slice Ag gl.length cg):=aA B7.out 2
 have zB4_0:w9.cell? ⟨d4,0,none⟩=some (.int .i64 v0):=aA B4.out 0
 have zB4_1:w9.cell? ⟨d4,1,none⟩=some (.int .i64 v1):=aA B4.out 1
 have zB4_2:w9.cell? ⟨d4,2,none⟩=some (.slice Av vl.length cv):=aA B4.out 2
 go_upto_region 10 with (first|((with_reducible refine aC (f:=10) rfl ?_);refine aP (some 34) rfl rfl Try.func10 (by kernel_rfl) rfl #[(.agg #[(.int .i64 g0),(.int .i64 g1),(.slice Ag gl.length cg)]),(.agg #[(.int .i64 v0),(.int .i64 v1),(.slice Av vl.length cv)])] rfl (by (try simp only [List.map_toArray,List.map_cons,List.map_nil]);first|done|rfl) ?_;(with_reducible refine (aR.calls k g0 g1 _ _ gl v0 v1 _ _ vl true _ (Kd.bK (dY Rg.out)).2.2 (Kd.bK (dY Rg.out)).2.1 (Kd.iB Rv.out).2.2 (Kd.iB Rv.out).2.1 HE1.out).mono ?_);rintro e jf ⟨rfl,hb⟩;refine ⟨_,rfl,?_⟩;replace B1:=am (aB B1.out hb);replace Rv:=am (Kd.dI Rv.out hb);replace B4:=am (aB B4.out hb);replace Rx:=am (Kd.bM Rx.out hb);replace B6:=am (aB B6.out hb);replace Rg:=am (Kd.bM Rg.out hb);replace B7:=am (aB B7.out hb);replace HB:=am (aF HB.out hb);clear hb zB7_0 zB7_1 zB7_2 zB4_0 zB4_1 zB4_2)|fail)
 refine wp_region_any (by kernel_rfl) ?_
 replace B1:=am (fG B1.out)
 replace Rv:=am (Kd.uS Rv.out)
 replace B4:=am (fG B4.out)
 replace Rx:=am (Kd.wY Rx.out)
 replace B6:=am (fG B6.out)
 replace Rg:=am (Kd.wY Rg.out)
 replace B7:=am (fG B7.out)
 replace HB:=am (bO HB.out)
 show wpAny _ _ _ _ _ _ _ jf.drew
 generalize jf.drew=W0 at B1 Rv B4 Rx B6 Rg B7 HB ⊢
 refine vZ (n:=5) (T:=(true,[([],[]),([],[]),([1],[1]),([0,2,2],[0,2]),([3],[3])])) rfl (by kernel_rfl) (by decide) (fun b a W=>nP W0 d1 d4 d6 d7 left gb a0 a1 A c l x0 x1 Ax cx xl v0 v1 Av cv vl g0 g1 Ag cg gl Ay cy (b 0) (b 1) (b 2) (b 3) (b 4) a W) ?hstep ?hdone _ _ ?hstart
 case hstart=>exact ⟨none,0,rfl,⟨Below.refl _ _,fun e=>Bool.noConfusion e⟩⟩
 case hstep=>
  intro i b a W hi hbi hneed hcl hI
  have hcase:i=0∨i=1∨i=2∨i=3∨i=4:=by omega
  rcases hcase with rfl|rfl|rfl|rfl|rfl
  ·
   have z3:=zz_ (fun h=>hcl 3 _ h rfl 0 (by decide)) hbi
   have z4:=zz_ (fun h=>hcl 4 _ h rfl 3 (by decide)) z3
   simp only [hbi,z3,z4] at hI
   obtain ⟨j3,j4,rfl,h⟩:=hI
   refine wpOp_step rfl (fun K' hK'=>?_)
   simp (decide:=true) only [if_true,if_false,reduceIte,z3,z4] at hK'
   have hx_:=aB B6.out h.hB
   have z0:W.cell? ⟨d6,0,none⟩=some (.int .i64 x0):=aA hx_ 0
   have z1:W.cell? ⟨d6,1,none⟩=some (.int .i64 x1):=aA hx_ 1
   have z2:W.cell? ⟨d6,2,none⟩=some (.slice Ax xl.length cx):=aA hx_ 2
   refine dL (W:=W) (w1:=W) (v:=(.agg #[(.int .i64 x0),(.int .i64 x1),(.slice Ax xl.length cx)])) (by rfl) ?_ ?_
   ·(try simp only [dQ,cond_true,cond_false])
    go_simp
    (try rfl)
   refine hK' _ _ (⟨j3,j4,?_,h⟩)
   show Act.put _ (some 41) _=_
   simp only [dQ,Act.put,List.setIfInBounds_toArray,List.set_cons_zero,List.set_cons_succ,fT,iH]
   rfl
  ·
   have z2:=zz_ (fun h=>hcl 2 _ h rfl 1 (by decide)) hbi
   have z3:=zz_ (fun h=>hcl 3 _ h rfl 2 (by decide)) z2
   have z4:=zz_ (fun h=>hcl 4 _ h rfl 3 (by decide)) z3
   simp only [hbi,z2,z3,z4] at hI
   obtain ⟨j3,j4,rfl,h⟩:=hI
   refine wpOp_step rfl (fun K' hK'=>?_)
   simp (decide:=true) only [if_true,if_false,reduceIte,z2,z3,z4] at hK'
   have hx_:=aB B1.out h.hB
   have z0:W.cell? ⟨d1,0,none⟩=some (.int .i64 a0):=aA hx_ 0
   have z1:W.cell? ⟨d1,1,none⟩=some (.int .i64 a1):=aA hx_ 1
   have z2:W.cell? ⟨d1,2,none⟩=some (.slice A l.length c):=aA hx_ 2
   refine dL (W:=W) (w1:=W) (v:=(.agg #[(.int .i64 a0),(.int .i64 a1),(.slice A l.length c)])) (by rfl) ?_ ?_
   ·(try simp only [dQ,cond_true,cond_false])
    go_simp
    (try rfl)
   refine hK' _ _ (⟨j3,j4,?_,h⟩)
   show Act.put _ (some 42) _=_
   simp only [dQ,Act.put,List.setIfInBounds_toArray,List.set_cons_zero,List.set_cons_succ,fT,iH]
   rfl
  ·
   have hn_:=hneed _ rfl
   have n1:=hn_ 1 (by decide)
   have z3:=zz_ (fun h=>hcl 3 _ h rfl 2 (by decide)) hbi
   have z4:=zz_ (fun h=>hcl 4 _ h rfl 3 (by decide)) z3
   simp only [hbi,n1,z3,z4] at hI
   obtain ⟨j3,j4,rfl,h⟩:=hI
   refine wpOp_step rfl (fun K' hK'=>?_)
   simp (decide:=true) only [if_true,if_false,reduceIte,n1,z3,z4] at hK'
   refine rA Try.func8 (by kernel_rfl) rfl #[(.agg #[(.int .i64 a0),(.int .i64 a1),(.slice A l.length c)])] (by rfl) rfl rfl (by (try simp only [List.map_toArray,List.map_cons,List.map_nil]);first|done|rfl) ?_
   refine (bD.callsS k a0 a1 _ _ l x0 x1 xl _ (Kd.bA HR.out (aF HB.out h.hB)) HL.out HTO.out).mono ?_
   rintro e W' ⟨v,rfl,h0,hb⟩
   obtain ⟨A_,c_,rfl⟩:=Kd.dW h0
   refine ⟨_,rfl,hK' _ _ (⟨A_,c_,?_,⟨aF h.hB hb,fun _=>⟨(Kd.bK (dY h0)).2.2,(Kd.bK (dY h0)).2.1⟩⟩⟩)⟩
   show Act.put _ (some 43) _=_
   simp only [dQ,Act.put,List.setIfInBounds_toArray,List.set_cons_zero,List.set_cons_succ]
   rfl
  ·
   have hn_:=hneed _ rfl
   have n0:=hn_ 0 (by decide)
   have n2:=hn_ 2 (by decide)
   have n1:=hcl 2 _ n2 rfl 1 (by decide)
   have z4:=zz_ (fun h=>hcl 4 _ h rfl 3 (by decide)) hbi
   simp only [hbi,n0,n1,n2,z4] at hI
   obtain ⟨j3,j4,rfl,h⟩:=hI
   refine wpOp_step rfl (fun K' hK'=>?_)
   simp (decide:=true) only [if_true,if_false,reduceIte,n0,n1,n2,z4] at hK'
   refine rA Try.func10 (by kernel_rfl) rfl #[(.agg #[(.int .i64 x0),(.int .i64 x1),(.slice Ax xl.length cx)]),(.agg #[(.int .i64 x0),(.int .i64 x1),(.slice j3 xl.length j4)])] (by rfl) rfl rfl (by (try simp only [List.map_toArray,List.map_cons,List.map_nil]);first|done|rfl) ?_
   refine (aR.calls k x0 x1 _ _ xl x0 x1 _ _ xl true _ (Kd.bA (Kd.bK (dY Rx.out)).2.2 h.hB) (Kd.bK (dY Rx.out)).2.1 (h.hC rfl).1 (h.hC rfl).2 HE2.out).mono ?_
   rintro e W' ⟨rfl,hb⟩
   refine ⟨_,rfl,hK' _ _ (⟨j3,j4,?_,⟨aF h.hB hb,fun e=>⟨Kd.bA (h.hC e).1 hb,(h.hC e).2⟩⟩⟩)⟩
   show Act.put _ (some 44) _=_
   simp only [dQ,Act.put,List.setIfInBounds_toArray,List.set_cons_zero,List.set_cons_succ]
   rfl
  ·
   have hn_:=hneed _ rfl
   have n3:=hn_ 3 (by decide)
   have n0:=hcl 3 _ n3 rfl 0 (by decide)
   have n2:=hcl 3 _ n3 rfl 2 (by decide)
   have n1:=hcl 2 _ n2 rfl 1 (by decide)
   simp only [hbi,n0,n1,n2,n3] at hI
   obtain ⟨j3,j4,rfl,h⟩:=hI
   refine wpOp_step rfl (fun K' hK'=>?_)
   simp (decide:=true) only [if_true,if_false,reduceIte,n0,n1,n2,n3] at hK'
   refine dL (W:=W) (w1:=W) (v:=?_) (by rfl) ?_ ?_
   rotate_left
   ·(try simp only [dQ,cond_true,cond_false])
    go_simp
    first|with_reducible rfl|rfl
   refine hK' _ _ (⟨j3,j4,?_,h⟩)
   show Act.put _ (some 45) _=_
   simp only [dQ,Act.put,List.setIfInBounds_toArray,List.set_cons_zero,List.set_cons_succ,fT,iH]
   rfl
 case hdone=>
  intro b a W1 hall hI
  replace hI:nP W0 d1 d4 d6 d7 left gb a0 a1 A c l x0 x1 Ax cx xl v0 v1 Av cv vl g0 g1 Ag cg gl Ay cy (b 0) (b 1) (b 2) (b 3) (b 4) a W1:=hI
  rw [hall 0 (by decide),hall 1 (by decide),hall 2 (by decide),hall 3 (by decide),hall 4 (by decide)] at hI
  obtain ⟨j3,j4,rfl,h⟩:=hI
  simp only [dQ,cond_true]
  have hb:=h.hB
  replace B1:=am (aB B1.out hb)
  replace Rv:=am (Kd.dI Rv.out hb)
  replace B4:=am (aB B4.out hb)
  replace Rx:=am (Kd.bM Rx.out hb)
  replace B6:=am (aB B6.out hb)
  replace Rg:=am (Kd.bM Rg.out hb)
  replace B7:=am (aB B7.out hb)
  replace HB:=am (aF HB.out hb)
  clear h hall hb
  have zB6_0:W1.cell? ⟨d6,0,none⟩=some (.int .i64 x0):=aA B6.out 0
  have zB6_1:W1.cell? ⟨d6,1,none⟩=some (.int .i64 x1):=aA B6.out 1
  have zB6_2:W1.cell? ⟨d6,2,none⟩=some (.slice Ax xl.length cx):=aA B6.out 2
  go_upto_region 14 with (first|((with_reducible refine aC (f:=11) rfl ?_);refine aP (some 48) rfl rfl Try.func11 (by kernel_rfl) rfl #[(.agg #[(.int .i64 x0),(.int .i64 x1),(.slice Ax xl.length cx)]), .int .i64 1] rfl (by (try simp only [List.map_toArray,List.map_cons,List.map_nil]);first|done|rfl) ?_;(with_reducible refine (eU.calls k w.heap.size (fun q=>s2≤q∧q < d6) x0 x1 Ax cx xl 1 m1 nl _ HB.out.size Rx.out HM1.out).mono ?_);rintro e j6 ⟨rfl,j7,hb,hk⟩;refine ⟨_,rfl,?_⟩;replace B1:=am (iC B1.out hk (fun hs_=>(by have t2:=T2.out;have t3:=T3.out;have t4:=T4.out;have t5:=T5.out;have h1_:=hs_.1;have h2_:=hs_.2;omega)));replace Rv:=am (Kd.oJ Rv.out (fun q hq hlt_=>hk.2 q hlt_ (fun hs_=>(by have t2:=T2.out;have t3:=T3.out;have t4:=T4.out;have t5:=T5.out;have h1_:=hs_.1;have h2_:=hs_.2;omega))));replace B4:=am (iC B4.out hk (fun hs_=>(by have t2:=T2.out;have t3:=T3.out;have t4:=T4.out;have t5:=T5.out;have h1_:=hs_.1;have h2_:=hs_.2;omega)));replace B6:=am (iC B6.out hk (fun hs_=>(by have t2:=T2.out;have t3:=T3.out;have t4:=T4.out;have t5:=T5.out;have h1_:=hs_.1;have h2_:=hs_.2;omega)));replace Rg:=am (Kd.uU Rg.out (fun q hq hlt_=>hk.2 q hlt_ (fun hs_=>(by have t2:=T2.out;have t3:=T3.out;have t4:=T4.out;have t5:=T5.out;have h1_:=hs_.1;have h2_:=hs_.2;omega))));replace B7:=am (iC B7.out hk (fun hs_=>(by have t2:=T2.out;have t3:=T3.out;have t4:=T4.out;have t5:=T5.out;have h1_:=hs_.1;have h2_:=hs_.2;omega)));replace HB:=am (HB.out.trans hb);clear Rx hb hk j7 zB6_0 zB6_1 zB6_2)|fail)
  have zB7_0:j6.cell? ⟨d7,0,none⟩=some (.int .i64 g0):=aA B7.out 0
  have zB7_1:j6.cell? ⟨d7,1,none⟩=some (.int .i64 g1):=aA B7.out 1
  have zB7_2:j6.cell? ⟨d7,2,none⟩=some (.slice Ag gl.length cg):=aA B7.out 2
  have zB4_0:j6.cell? ⟨d4,0,none⟩=some (.int .i64 v0):=aA B4.out 0
  have zB4_1:j6.cell? ⟨d4,1,none⟩=some (.int .i64 v1):=aA B4.out 1
  have zB4_2:j6.cell? ⟨d4,2,none⟩=some (.slice Av vl.length cv):=aA B4.out 2
  go_upto_region 17 with (first|(go_at_call 10;(with_reducible refine (aR.calls k g0 g1 _ _ gl v0 v1 _ _ vl true _ (Kd.bK (dY Rg.out)).2.2 (Kd.bK (dY Rg.out)).2.1 (Kd.iB Rv.out).2.2 (Kd.iB Rv.out).2.1 HE1.out).mono ?_);rintro e ja ⟨rfl,hb⟩;replace B1:=am (aB B1.out hb);replace Rv:=am (Kd.dI Rv.out hb);replace B4:=am (aB B4.out hb);replace B6:=am (aB B6.out hb);replace Rg:=am (Kd.bM Rg.out hb);replace B7:=am (aB B7.out hb);replace HB:=am (aF HB.out hb);clear hb zB7_0 zB7_1 zB7_2 zB4_0 zB4_1 zB4_2)|fail)
  have zB7_0:ja.cell? ⟨d7,0,none⟩=some (.int .i64 g0):=aA B7.out 0
  have zB7_1:ja.cell? ⟨d7,1,none⟩=some (.int .i64 g1):=aA B7.out 1
  have zB7_2:ja.cell? ⟨d7,2,none⟩=some (.slice Ag gl.length cg):=aA B7.out 2
  go_upto_region 18 with (first|((with_reducible refine aC (f:=11) rfl ?_);refine aP (some 64) rfl rfl Try.func11 (by kernel_rfl) rfl #[(.agg #[(.int .i64 g0),(.int .i64 g1),(.slice Ag gl.length cg)]), .int .i64 1] rfl (by (try simp only [List.map_toArray,List.map_cons,List.map_nil]);first|done|rfl) ?_;(with_reducible refine (eU.calls k w.heap.size (fun q=>s4≤q∧q < d7) g0 g1 Ag cg gl 1 q pl _ HB.out.size Rg.out HM.out).mono ?_);rintro e jb ⟨rfl,j7,hb,hk⟩;refine ⟨_,rfl,?_⟩;replace B1:=am (iC B1.out hk (fun hs_=>(by have t2:=T2.out;have t3:=T3.out;have t4:=T4.out;have t5:=T5.out;have h1_:=hs_.1;have h2_:=hs_.2;omega)));replace Rv:=am (Kd.oJ Rv.out (fun q hq hlt_=>hk.2 q hlt_ (fun hs_=>(by have t2:=T2.out;have t3:=T3.out;have t4:=T4.out;have t5:=T5.out;have h1_:=hs_.1;have h2_:=hs_.2;omega))));replace B4:=am (iC B4.out hk (fun hs_=>(by have t2:=T2.out;have t3:=T3.out;have t4:=T4.out;have t5:=T5.out;have h1_:=hs_.1;have h2_:=hs_.2;omega)));replace B6:=am (iC B6.out hk (fun hs_=>(by have t2:=T2.out;have t3:=T3.out;have t4:=T4.out;have t5:=T5.out;have h1_:=hs_.1;have h2_:=hs_.2;omega)));replace B7:=am (iC B7.out hk (fun hs_=>(by have t2:=T2.out;have t3:=T3.out;have t4:=T4.out;have t5:=T5.out;have h1_:=hs_.1;have h2_:=hs_.2;omega)));replace HB:=am (HB.out.trans hb);have e_:=(Kd.tO j7).1;rw [e_] at j7;replace Rg:=am j7;have B7_:=B7.out;rw [e_] at B7_;replace B7:=am B7_;clear B7_ e_ hb hk j7 zB7_0 zB7_1 zB7_2)|fail)
  have zB7_0:jb.cell? ⟨d7,0,none⟩=some (.int .i64 g0):=aA B7.out 0
  have zB7_1:jb.cell? ⟨d7,1,none⟩=some (.int .i64 g1):=aA B7.out 1
  have zB7_2:jb.cell? ⟨d7,2,none⟩=some (.slice Ag pl.length cg):=aA B7.out 2
  go_upto_region 24 with (first|((with_reducible refine aC (f:=12) rfl ?_);refine aP (some 67) rfl rfl Try.func12 (by kernel_rfl) rfl #[(.agg #[(.int .i64 g0),(.int .i64 g1),(.slice Ag pl.length cg)]), .int .i64 1] rfl (by (try simp only [List.map_toArray,List.map_cons,List.map_nil]);first|done|rfl) ?_;(with_reducible refine (bZ.calls k g0 g1 _ _ pl 1 q _ (Kd.bK (dY Rg.out)).2.2 (Kd.bK (dY Rg.out)).2.1 HQ.out).mono ?_);rintro e jc ⟨rfl,hb⟩;refine ⟨_,rfl,?_⟩;replace B1:=am (aB B1.out hb);replace Rv:=am (Kd.dI Rv.out hb);replace B4:=am (aB B4.out hb);replace B6:=am (aB B6.out hb);replace Rg:=am (Kd.bM Rg.out hb);replace B7:=am (aB B7.out hb);replace HB:=am (aF HB.out hb);clear hb zB7_0 zB7_1 zB7_2)|fail)
  have zB1_0:jc.cell? ⟨d1,0,none⟩=some (.int .i64 a0):=aA B1.out 0
  have zB1_1:jc.cell? ⟨d1,1,none⟩=some (.int .i64 a1):=aA B1.out 1
  have zB1_2:jc.cell? ⟨d1,2,none⟩=some (.slice A l.length c):=aA B1.out 2
  go_upto_region 25 with (first|((with_reducible refine aC (f:=8) rfl ?_);refine aP (some 75) rfl rfl Try.func8 (by kernel_rfl) rfl #[(.agg #[(.int .i64 a0),(.int .i64 a1),(.slice A l.length c)])] rfl (by (try simp only [List.map_toArray,List.map_cons,List.map_nil]);first|done|rfl) ?_;(with_reducible refine (bD.callsS k a0 a1 _ _ l x0 x1 xl _ (Kd.bA HR.out HB.out) HL.out HTO.out).mono ?_);rintro e jg ⟨v,rfl,h0,hb⟩;refine ⟨_,rfl,?_⟩;obtain ⟨Au,cu,rfl⟩:=Kd.dW h0;have Ru:=am h0;clear zB1_0 zB1_1 zB1_2;replace B1:=am (aB B1.out hb);replace Rv:=am (Kd.dI Rv.out hb);replace B4:=am (aB B4.out hb);replace B6:=am (aB B6.out hb);replace Rg:=am (Kd.bM Rg.out hb);replace B7:=am (aB B7.out hb);replace HB:=am (aF HB.out hb);clear h0 hb)|((with_reducible refine aC (f:=9) rfl ?_);refine aP (some 76) rfl rfl Try.func9 (by kernel_rfl) rfl #[(.agg #[(.int .i64 x0),(.int .i64 x1),(.slice Au xl.length cu)])] rfl (by (try simp only [List.map_toArray,List.map_cons,List.map_nil]);first|done|rfl) ?_;(with_reducible refine (bV.callsS k x0 x1 _ _ xl g0 g1 gl gb _ (Kd.bK (dY Ru.out)).2.2 (Kd.bK (dY Ru.out)).2.1 HIM.out).mono ?_);rintro e j8 ⟨v,rfl,h0,hb⟩;refine ⟨_,rfl,?_⟩;obtain ⟨Ah,ch,rfl⟩:=Kd.dW h0;have Rh:=am (Kd.gF h0 HB.out.size);replace B1:=am (aB B1.out hb);replace Rv:=am (Kd.dI Rv.out hb);replace B4:=am (aB B4.out hb);replace B6:=am (aB B6.out hb);replace Rg:=am (Kd.bM Rg.out hb);replace B7:=am (aB B7.out hb);replace HB:=am (aF HB.out hb);clear h0 hb Ru)|fail)
  have hb:Below j8.heap.size j8 (j8.alloc (.cells #[(.int .i64 g0),(.int .i64 g1),(.slice Ah gl.length ch)] 28)):=bB (Below.refl _ _) _
  have j5:=am (lN j8 (.cells #[(.int .i64 g0),(.int .i64 g1),(.slice Ah gl.length ch)] 28))
  replace B1:=am (aB B1.out hb)
  replace Rv:=am (Kd.dI Rv.out hb)
  replace B4:=am (aB B4.out hb)
  replace B6:=am (aB B6.out hb)
  replace Rg:=am (Kd.bM Rg.out hb)
  replace B7:=am (aB B7.out hb)
  replace Rh:=am (Kd.bM Rh.out hb)
  replace HB:=am (aF HB.out hb)
  clear hb
  generalize j8.alloc (.cells #[(.int .i64 g0),(.int .i64 g1),(.slice Ah gl.length ch)] 28)=j9 at B1 Rv B4 B6 Rg B7 Rh j5 HB ⊢
  generalize j8.heap.size=jd at j5 ⊢
  have zB12_0:j9.cell? ⟨jd,0,none⟩=some (.int .i64 g0):=aA j5.out 0
  have zB12_1:j9.cell? ⟨jd,1,none⟩=some (.int .i64 g1):=aA j5.out 1
  have zB12_2:j9.cell? ⟨jd,2,none⟩=some (.slice Ah gl.length ch):=aA j5.out 2
  have zB4_0:j9.cell? ⟨d4,0,none⟩=some (.int .i64 v0):=aA B4.out 0
  have zB4_1:j9.cell? ⟨d4,1,none⟩=some (.int .i64 v1):=aA B4.out 1
  have zB4_2:j9.cell? ⟨d4,2,none⟩=some (.slice Av vl.length cv):=aA B4.out 2
  go_upto_region 28 with (first|((with_reducible refine aC (f:=10) rfl ?_);refine aP (some 81) rfl rfl Try.func10 (by kernel_rfl) rfl #[(.agg #[(.int .i64 g0),(.int .i64 g1),(.slice Ah gl.length ch)]),(.agg #[(.int .i64 v0),(.int .i64 v1),(.slice Av vl.length cv)])] rfl (by (try simp only [List.map_toArray,List.map_cons,List.map_nil]);first|done|rfl) ?_;(with_reducible refine (aR.calls k g0 g1 _ _ gl v0 v1 _ _ vl true _ (Kd.bK (dY Rh.out)).2.2 (Kd.bK (dY Rh.out)).2.1 (Kd.iB Rv.out).2.2 (Kd.iB Rv.out).2.1 HE1.out).mono ?_);rintro e je ⟨rfl,hb⟩;refine ⟨_,rfl,?_⟩;replace B1:=am (aB B1.out hb);replace Rv:=am (Kd.dI Rv.out hb);replace B4:=am (aB B4.out hb);replace B6:=am (aB B6.out hb);replace Rg:=am (Kd.bM Rg.out hb);replace B7:=am (aB B7.out hb);replace Rh:=am (Kd.bM Rh.out hb);replace j5:=am (aB j5.out hb);replace HB:=am (aF HB.out hb);clear hb zB12_0 zB12_1 zB12_2 zB4_0 zB4_1 zB4_2)|fail)
  have zB7_0:je.cell? ⟨d7,0,none⟩=some (.int .i64 g0):=aA B7.out 0
  have zB7_1:je.cell? ⟨d7,1,none⟩=some (.int .i64 g1):=aA B7.out 1
  have zB7_2:je.cell? ⟨d7,2,none⟩=some (.slice Ag pl.length cg):=aA B7.out 2
  go_wp2_with (first|((with_reducible refine aC (f:=12) rfl ?_);refine aP (some 90) rfl rfl Try.func12 (by kernel_rfl) rfl #[(.agg #[(.int .i64 g0),(.int .i64 g1),(.slice Ag pl.length cg)]), .int .i64 1] rfl (by (try simp only [List.map_toArray,List.map_cons,List.map_nil]);first|done|rfl) ?_;(with_reducible refine (bZ.calls k g0 g1 _ _ pl 1 q _ (Kd.bK (dY Rg.out)).2.2 (Kd.bK (dY Rg.out)).2.1 HQ.out).mono ?_);rintro e jh ⟨rfl,hb⟩;refine ⟨_,rfl,?_⟩;replace B1:=am (aB B1.out hb);replace Rv:=am (Kd.dI Rv.out hb);replace B4:=am (aB B4.out hb);replace B6:=am (aB B6.out hb);replace Rg:=am (Kd.bM Rg.out hb);replace B7:=am (aB B7.out hb);replace Rh:=am (Kd.bM Rh.out hb);replace j5:=am (aB j5.out hb);replace HB:=am (aF HB.out hb);clear hb zB7_0 zB7_1 zB7_2)|fail)
  go_ret
  exact ⟨rfl,HB.out⟩
end Go.Proofs.Ythiegfpcfedbgaa.PA

namespace Go.Proofs.Ythiegfpcfedbgaa.Core
open Go.RowKit Go.Proofs.YthiegfpcfedbgaaW.PrintWords Go.Proofs.YthiegfpcfedbgaaW.PrintMore
section
variable {α β:Type} {g h:Nat→Option α} {P Q:α→Prop}
def EvP (g:Nat→Option α) (P:α→Prop):Prop:=∃ r,Ev g r∧P r
theorem EvP.ret {r:α} (h:P r):EvP (fun _=>some r) P:=⟨r,Ev.now r,h⟩
theorem EvP.mono (h:EvP g P) (k:∀ a,P a→Q a):EvP g Q:=by
 obtain ⟨r,h1,h2⟩:=h
 exact ⟨r,h1,k r h2⟩
theorem EvP.bind {f:Nat→α→Option β} {R:β→Prop} (h:EvP g P) (k:∀ a,P a→EvP (fun n=>f n a) R):EvP (fun n=>(g n).bind (f n)) R:=by
 obtain ⟨a,h1,h2⟩:=h
 obtain ⟨r,k1,k2⟩:=k a h2
 exact ⟨r,Ev.bind h1 k1,k2⟩
theorem EvP.dZ {o:Option α} {a:α} {f:Nat→α→Option β} {R:β→Prop} (h:o=some a) (k:EvP (fun n=>f n a) R):EvP (fun n=>o.bind (f n)) R:=by
 subst h
 exact k
theorem EvP.ite {c:Prop} [Decidable c] (h1:c→EvP g P) (h2:¬ c→EvP h P):EvP (fun n=>if c then g n else h n) P:=by
 by_cases hc:c
 ·simp only [if_pos hc]
  exact h1 hc
 ·simp only [if_neg hc]
  exact h2 hc
theorem EvP.yes {c:Prop} [Decidable c] (hc:c) (h1:EvP g P):EvP (fun n=>if c then g n else h n) P:=by
 simp only [if_pos hc]
 exact h1
theorem EvP.no {c:Prop} [Decidable c] (hc:¬ c) (h1:EvP h P):EvP (fun n=>if c then g n else h n) P:=by
 simp only [if_neg hc]
 exact h1
theorem EvP.step {f:Nat→Option α} (h:∀ k,g (k + 1)=f k) (k:EvP f P):EvP g P:=by
 obtain ⟨r,h1,h2⟩:=k
 exact ⟨r,Ev.step h h1,h2⟩
theorem EvP.ends {r:α} (h:EvP g (·=r)):∃ k,g k=some r:=by
  obtain ⟨a,h1,h2⟩:=h
  subst h2
  exact h1.rounds
theorem EvP.congr {f:Nat→Option α} (h:∀ k,g k=f k) (k:EvP f P):EvP g P:=by
 obtain ⟨r,h1,h2⟩:=k
 exact ⟨r,Ev.congr h h1,h2⟩
theorem EvP.bR {f:Nat→α→Option β} {R:β→Prop} {a:α} (h:EvP g (·=a)) (k:EvP (fun n=>f n a) R):EvP (fun n=>(g n).bind (f n)) R:=
  EvP.bind h (fun b hb=>by subst hb;exact k)
end
theorem w64 {n:Int} (h1:-9223372036854775808≤n) (h2:n≤9223372036854775807):wrap64 n=n:=by
 unfold wrap64
 omega
end Go.Proofs.Ythiegfpcfedbgaa.Core

namespace Go.Proofs.Ythiegfpcfedbgaa.PA
open Go.RowKit Go.Proofs.YthiegfpcfedbgaaW.PrintWords Go.Proofs.YthiegfpcfedbgaaW.PrintMore Go.Proofs.Ythiegfpcfedbgaa.Core
def vw (n:Int):Bool:=decide (-2147483648≤n) && decide (n≤2147483647)
theorem xX {n:Int}:vw n=true ↔ -2147483648≤n∧n≤2147483647:=by
 unfold vw
 rw [Bool.and_eq_true,decide_eq_true_eq,decide_eq_true_eq]
theorem yZ (b:Int):0≤Go.bits .and .i64 b 31∧Go.bits .and .i64 b 31≤31:=by
 simp only [Go.bits]
 rw [show IntKind.i64.bits=64 from rfl,IntKind.wrap_i64,BitVec.toNat_and]
 have h:(BitVec.ofInt 64 b).toNat &&& (BitVec.ofInt 64 31).toNat≤(BitVec.ofInt 64 31).toNat:=Nat.and_le_right
 have e:(BitVec.ofInt 64 31).toNat=31:=by decide
 rw [e] at h ⊢
 omega
theorem kD (a:Int):wrap32 (wrap64 a)=wrap32 a:=by
 unfold wrap32 wrap64
 omega
theorem yV (a:Int):wrap64 (wrap32 a)=wrap32 a:=by
 unfold wrap32 wrap64
 omega
def ap (op a b:Int):Int:=
 if op=1 then Go.bits .or .i64 a b else if op=2 then Go.bits .xor .i64 a b else if op=3 then Go.bits .and .i64 a b
 else if op=4 then (if a=b then 1 else 0) else if op=5 then (if a < b then 1 else 0)
 else if op=6 then wrap32 (shl .i64 a (Go.bits .and .i64 b 31)) else if op=7 then shr .i64 a (Go.bits .and .i64 b 31)
 else if op=8 then wrap32 (a + b) else if op=9 then wrap32 (a - b) else if op=10 then wrap32 (a * b)
 else if op=11 then (if b=0 then -1 else wrap32 (Int.tdiv a b)) else if b=0 then a else Int.tmod a b
theorem mW (a b c:Int):bI.f a b c=some (decide (b≤a) && decide (a≤c)):=by
 unfold bI.f
 by_cases h:a≥b
 ·rw [if_pos h,decide_eq_true h,Bool.true_and]
 ·rw [if_neg h,decide_eq_false h,Bool.false_and]
theorem kC (a:Int):dA.f a=some (vw a):=by
 unfold dA.f
 rw [mW]
 rfl
inductive X where
 |num (n:Int)
 |var (v:Int)
 |bin (op:Int) (a b:X)
namespace X
def ok:X→Prop
 |num n=>0≤n∧n≤99999
 |var v=>0≤v∧v < 4
 |bin op a b=>(1≤op∧op≤12)∧a.ok∧b.ok
def depth:X→Nat
 |num _=>1
 |var _=>1
 |bin _ a b=>max a.depth b.depth + 1
def size:X→Nat
 |num _=>1
 |var _=>1
 |bin _ a b=>a.size + b.size + 1
def eval (g:Int→Int):X→Int
 |num n=>n
 |var v=>g v
 |bin op a b=>ap op (a.eval g) (b.eval g)
def kH (op:Int):X→X→X
 |num m,num n=>if 0≤ap op m n∧ap op m n≤99999 then num (ap op m n) else bin op (num m) (num n)
 |a,b=>bin op a b
def fold:X→X
 |num n=>num n
 |var v=>var v
 |bin op a b=>kH op a.fold b.fold
theorem sP:∀ x:X,1≤x.depth
 |num _|var _=>Nat.le_refl _
 |bin _ _ _=>Nat.le_add_left _ _
theorem mP:∀ x:X,x.size + 1≤2 ^ x.depth
 |num _|var _=>by simp [size,depth]
 |bin _ a b=>by
  have ha:=mP a
  have hb:=mP b
  have h1:2 ^ a.depth≤2 ^ max a.depth b.depth:=Nat.pow_le_pow_right (by omega) (Nat.le_max_left _ _)
  have h2:2 ^ b.depth≤2 ^ max a.depth b.depth:=Nat.pow_le_pow_right (by omega) (Nat.le_max_right _ _)
  simp only [size,depth,Nat.pow_succ]
  omega
theorem xB {op:Int} (ho:1≤op∧op≤12):∀ {a b:X},a.ok→b.ok→(kH op a b).ok:=by
 intro a b ha hb
 unfold kH
 split
 ·split
  ·assumption
  ·exact ⟨ho,ha,hb⟩
 ·exact ⟨ho,ha,hb⟩
theorem lT:∀ x:X,x.ok→x.fold.ok
 |num _,h=>h
 |var _,h=>h
 |bin _ a b,h=>xB h.1 (lT a h.2.1) (lT b h.2.2)
theorem vD (op:Int) (a b:X):(kH op a b).size≤a.size + b.size + 1:=by
 unfold kH
 split
 ·split
  ·simp [size]
  ·exact Nat.le_refl _
 ·exact Nat.le_refl _
theorem fold_size:∀ x:X,x.fold.size≤x.size
 |num _=>Nat.le_refl _
 |var _=>Nat.le_refl _
 |bin op a b=>by
  have ha:=fold_size a
  have hb:=fold_size b
  have h:=vD op a.fold b.fold
  simp only [fold,size]
  omega
theorem tY {op:Int} {a b:X} (h:∀ m n,a=num m→b=num n→¬ (0≤ap op m n∧ap op m n≤99999)):kH op a b=bin op a b:=by
 unfold kH
 split
 ·rw [if_neg (h _ _ rfl rfl)]
 ·rfl
end X
def emb:X→S28
 | .num n=>⟨0,n,[]⟩
 | .var v=>⟨13,v,[]⟩
 | .bin op a b=>⟨op,0,[emb a,emb b]⟩
theorem sS (l:List S28) (i:Nat) (h:i < l.length):aH l (i:Int)=l[i]:=by
 unfold aH
 rw [Int.toNat_natCast,List.getD_eq_getElem?_getD,List.getElem?_eq_getElem h]
 rfl
theorem AU (a b:S28):aH [a,b] 0=a:=rfl
theorem AV (a b:S28):aH [a,b] 1=b:=rfl
theorem vB (a:S28):(⟨a.f0,a.f1,a.f2⟩:S28)=a:=by
 cases a
 rfl
def vx:Nat→Int→Int→List S28→Bool
 |0,_,_,_=>false
 |d + 1,op,n,l=>
  if op=0 then decide (0≤n) && (decide (n≤99999) && decide (l.length=0))
  else if op=13 then decide (0≤n) && (decide (n < 4) && decide (l.length=0))
  else decide (1≤op) && (decide (op≤12) && (decide (n=0) && (match l with
   |[a,b]=>vx d a.f0 a.f1 a.f2 && vx d b.f0 b.f1 b.f2
   | _=>false)))
theorem vP {α:Type} {l:List α} (h:l.length=2):∃ a b,l=[a,b]:=by
 match l,h with
 |[a,b],_=>exact ⟨a,b,rfl⟩
theorem tH:∀ (d:Nat) (op n:Int) (l:List S28),vx d op n l=true→∃ x:X,x.ok∧x.depth≤d∧emb x=⟨op,n,l⟩
 |0,_,_,_,h=>by cases h
 |d + 1,op,n,l,h=>by
  unfold vx at h
  by_cases h0:op=0
  ·rw [if_pos h0] at h
   simp only [Bool.and_eq_true,decide_eq_true_eq] at h
   subst h0
   exact ⟨.num n,⟨h.1,h.2.1⟩,by simp [X.depth],by rw [emb,List.eq_nil_of_length_eq_zero h.2.2]⟩
  ·rw [if_neg h0] at h
   by_cases j3:op=13
   ·rw [if_pos j3] at h
    simp only [Bool.and_eq_true,decide_eq_true_eq] at h
    subst j3
    exact ⟨.var n,⟨h.1,h.2.1⟩,by simp [X.depth],by rw [emb,List.eq_nil_of_length_eq_zero h.2.2]⟩
   ·rw [if_neg j3] at h
    simp only [Bool.and_eq_true,decide_eq_true_eq] at h
    obtain ⟨h1,h2,h3,h4⟩:=h
    split at h4
    ·rename_i a b
     simp only [Bool.and_eq_true] at h4
     obtain ⟨x,x1,x2,x3⟩:=tH d a.f0 a.f1 a.f2 h4.1
     obtain ⟨y,y1,y2,y3⟩:=tH d b.f0 b.f1 b.f2 h4.2
     exact ⟨.bin op x y,⟨⟨h1,h2⟩,x1,y1⟩,by simp only [X.depth];omega,by rw [emb,x3,y3,h3,vB,vB]⟩
    ·cases h4
theorem tF:∀ (x:X) (d:Nat),x.ok→(vx d (emb x).f0 (emb x).f1 (emb x).f2=decide (x.depth≤d))
 |x,0,_=>by
  have:=X.sP x
  rw [decide_eq_false (by omega)]
  rfl
 | .num n,d + 1,h=>by
  have h:0≤n∧n≤99999:=h
  simp [vx,emb,X.depth,h.1,h.2]
 | .var v,d + 1,h=>by
  have h:0≤v∧v < 4:=h
  simp [vx,emb,X.depth,h.1,h.2]
 | .bin op a b,d + 1,h=>by
  have h1:=h.1
  have ha:=tF a d h.2.1
  have hb:=tF b d h.2.2
  have e0:¬ (op=0):=by omega
  have j3:¬ (op=13):=by omega
  have e:(X.bin op a b).depth=max a.depth b.depth + 1:=rfl
  show (if op=0 then _ else if op=13 then _ else decide (1≤op) && (decide (op≤12) && (true && (vx d (emb a).f0 (emb a).f1 (emb a).f2 && vx d (emb b).f0 (emb b).f1 (emb b).f2))))=_
  rw [if_neg e0,if_neg j3,decide_eq_true h1.1,decide_eq_true h1.2,ha,hb,e,Bool.true_and,Bool.true_and,Bool.true_and,Bool.eq_iff_iff]
  simp only [Bool.and_eq_true,decide_eq_true_eq]
  omega
theorem kT (a:Int):cK.f a=some (decide (1≤a) && decide (a≤12)):=by
 unfold cK.f
 by_cases h:a≥1
 ·rw [if_pos h,decide_eq_true h,Bool.true_and]
 ·rw [if_neg h,decide_eq_false h,Bool.false_and]
theorem kV (a:Int):bP.f a=some (decide (1≤a) && decide (a≤12)):=by
 unfold bP.f
 rw [mW]
 rfl
theorem gI:∀ (d:Nat) (op n:Int) (l:List S28),d≤1000→EvP (fun k=>aS.f k op n l (d:Int)) (·=vx d op n l)
  |0,op,n,l,hd=>by
    refine EvP.step (fun k=>aS.f.eq_2 (k:=k) ..) ?_
    refine EvP.ite (fun h=>?_) (fun h=>?_)
    · refine EvP.ite (fun _=>EvP.ite (fun _=>EvP.ite (fun _=>EvP.ret ?_) (fun _=>EvP.ret ?_)) (fun _=>EvP.ret ?_)) (fun _=>EvP.ret ?_) <;> simp [vx]
    · refine EvP.ite (fun h=>?_) (fun h=>?_)
      · refine EvP.ite (fun _=>EvP.ite (fun _=>EvP.ite (fun _=>EvP.ret ?_) (fun _=>EvP.ret ?_)) (fun _=>EvP.ret ?_)) (fun _=>EvP.ret ?_) <;> simp [vx]
      · refine EvP.dZ (kT op) (EvP.ite (fun _=>EvP.ite (fun _=>EvP.ite (fun _=>EvP.no (by omega) (EvP.ret ?_)) (fun _=>EvP.ret ?_)) (fun _=>EvP.ret ?_)) (fun _=>EvP.ret ?_)) <;> simp [vx]
  |d + 1,op,n,l,hd=>by
    refine EvP.step (fun k=>aS.f.eq_2 (k:=k) ..) ?_
    unfold vx
    refine EvP.ite (fun h=>?_) (fun h=>?_)
    · rw [if_pos h]
      refine EvP.ite (fun h1=>EvP.ite (fun h2=>EvP.ite (fun h3=>EvP.ret ?_) (fun h3=>EvP.ret ?_)) (fun h2=>EvP.ret ?_)) (fun h1=>EvP.ret ?_)
      · rw [decide_eq_true (show 0≤n from h1),decide_eq_true h2,decide_eq_true (show l.length=0 by omega)]
        simp
      · rw [decide_eq_false (p:=l.length=0) (by omega)]
        simp
      · rw [decide_eq_false h2]
        simp
      · rw [decide_eq_false (p:=0≤n) h1]
        simp
    · rw [if_neg h]
      refine EvP.ite (fun h=>?_) (fun j3=>?_)
      · rw [if_pos h]
        refine EvP.ite (fun h1=>EvP.ite (fun h2=>EvP.ite (fun h3=>EvP.ret ?_) (fun h3=>EvP.ret ?_)) (fun h2=>EvP.ret ?_)) (fun h1=>EvP.ret ?_)
        · rw [decide_eq_true (show 0≤n from h1),decide_eq_true h2,decide_eq_true (show l.length=0 by omega)]
          simp
        · rw [decide_eq_false (p:=l.length=0) (by omega)]
          simp
        · rw [decide_eq_false h2]
          simp
        · rw [decide_eq_false (p:=0≤n) h1]
          simp
      · rw [if_neg j3]
        refine EvP.dZ (kT op) (EvP.ite (fun h1=>?_) (fun h1=>EvP.ret ?_))
        · simp only [Bool.and_eq_true,decide_eq_true_eq] at h1
          rw [decide_eq_true h1.1,decide_eq_true h1.2]
          refine EvP.ite (fun h2=>?_) (fun h2=>EvP.ret (by rw [decide_eq_false h2];rfl))
          rw [decide_eq_true h2]
          refine EvP.ite (fun h3=>?_) (fun h3=>EvP.ret ?_)
          · obtain ⟨a,b,rfl⟩:=vP (show l.length=2 by omega)
            refine EvP.ite (fun h4=>?_) (fun h4=>EvP.ret ?_)
            · rw [w64 (by omega) (by omega),show ((d + 1:Nat):Int) - 1=(d:Int) by omega,AU,AV]
              refine EvP.yes (by simp) (EvP.bR (gI d _ _ _ (by omega)) (EvP.ite (fun h5=>?_) (fun h5=>EvP.ret ?_)))
              · refine EvP.yes (by simp) (EvP.bR (gI d _ _ _ (by omega)) (EvP.ret ?_))
                simp [h5]
              · simp [h5]
            · have hd0:d=0:=by omega
              subst hd0
              rfl
          · split
            · simp at h3
            · rfl
        · symm
          rw [Bool.eq_false_iff]
          intro e
          simp only [Bool.and_eq_true,decide_eq_true_eq] at e h1
          exact h1 ⟨e.1,e.2.1⟩
theorem kS:∀ (d:Nat) (op n:Int) (l:List S28),d≤1000→EvP (fun k=>bH.f k op n l (d:Int)) (·=vx d op n l)
  |0,op,n,l,hd=>EvP.step (fun k=>bH.f.eq_2 (k:=k) ..) (EvP.yes (by omega) (EvP.ret rfl))
  |d + 1,op,n,l,hd=>by
    have hlen:((l.length:Int) == 0)=decide (l.length=0):=by
      rw [Bool.eq_iff_iff,beq_iff_eq,decide_eq_true_eq]
      omega
    refine EvP.step (fun k=>bH.f.eq_2 (k:=k) ..) (EvP.no (by omega) ?_)
    unfold vx
    refine EvP.ite (fun h=>?_) (fun h=>?_)
    · rw [if_pos h,mW]
      refine EvP.dZ rfl (EvP.ite (fun h1=>EvP.ret ?_) (fun h1=>EvP.ret ?_))
      · rw [hlen]
        simp only [Bool.and_eq_true,decide_eq_true_eq] at h1
        rw [decide_eq_true h1.1,decide_eq_true h1.2]
        rfl
      · rw [← Bool.and_assoc,Bool.eq_false_iff.mpr h1]
        rfl
    · rw [if_neg h]
      refine EvP.ite (fun h=>?_) (fun j3=>?_)
      · rw [if_pos h,mW]
        have e3:decide (n < 4)=decide (n≤3):=decide_eq_decide.mpr (by omega)
        rw [e3]
        refine EvP.dZ rfl (EvP.ite (fun h1=>EvP.ret ?_) (fun h1=>EvP.ret ?_))
        · rw [hlen]
          simp only [Bool.and_eq_true,decide_eq_true_eq] at h1
          rw [decide_eq_true h1.1,decide_eq_true h1.2]
          rfl
        · rw [← Bool.and_assoc,Bool.eq_false_iff.mpr h1]
          rfl
      · rw [if_neg j3]
        refine EvP.dZ (kV op) (EvP.ite (fun h1=>?_) (fun h1=>EvP.ret ?_))
        · simp only [Bool.and_eq_true,decide_eq_true_eq] at h1
          rw [decide_eq_true h1.1,decide_eq_true h1.2]
          refine EvP.ite (fun h2=>?_) (fun h2=>EvP.ret (by rw [decide_eq_false h2];rfl))
          rw [decide_eq_true h2]
          refine EvP.ite (fun h3=>?_) (fun h3=>EvP.ret ?_)
          · obtain ⟨a,b,rfl⟩:=vP (show l.length=2 by omega)
            rw [w64 (by omega) (by omega),show ((d + 1:Nat):Int) - 1=(d:Int) by omega,AU,AV]
            refine EvP.yes (by simp) (EvP.bR (kS d _ _ _ (by omega)) (EvP.ite (fun h5=>?_) (fun h5=>EvP.ret ?_)))
            · refine EvP.yes (by simp) (EvP.bR (kS d _ _ _ (by omega)) (EvP.ret ?_))
              simp [h5]
            · simp [h5]
          · split
            · simp at h3
            · rfl
        · rw [← Bool.and_assoc,Bool.eq_false_iff.mpr h1]
          rfl
theorem iZ (op n:Int) (l:List S28):EvP (fun k=>bF.f k op n l) (·=vx 5 op n l):=by
  unfold bF.f
  exact EvP.bR (kS 5 op n l (by omega)) (EvP.ret rfl)
theorem iW (op n:Int) (l:List S28):EvP (fun k=>bN.f k op n l) (·=vx 5 op n l):=by
  unfold bN.f
  exact EvP.bR (gI 5 op n l (by omega)) (EvP.ret rfl)
def tri (e:S28):Int × Int × List S28:=(e.f0,e.f1,e.f2)
theorem gH (a:Int):dF.f a=some (wrap32 a):=by
 unfold dF.f
 rw [yV]
theorem gJ (a:Int):bW.f a=some (wrap32 a):=by
 have ht:Int.tmod a 4294967296=a % 4294967296∨(a < 0∧Int.tmod a 4294967296= -((-a) % 4294967296)):=by
  rcases Int.le_total 0 a with h|h
  ·exact .inl (Int.tmod_eq_emod_of_nonneg h)
  ·by_cases h0:a=0
   ·subst h0
    exact .inl rfl
   ·refine .inr ⟨by omega,?_⟩
    rw [← Int.tmod_eq_emod_of_nonneg (show 0≤-a by omega),Int.neg_tmod,Int.neg_neg]
 unfold bW.f
 generalize Int.tmod a 4294967296=m at ht ⊢
 unfold wrap32
 by_cases h1:m > 2147483647
 ·rw [if_pos h1,w64 (by omega) (by omega)]
  congr 1
  omega
 ·by_cases h2:m < -2147483648
  ·rw [if_neg h1,if_pos h2,w64 (by omega) (by omega)]
   congr 1
   omega
  ·rw [if_neg h1,if_neg h2]
   congr 1
   omega
theorem mE (b:Bool):fA.f b=some (if b=true then 1 else 0):=by
 unfold fA.f
 cases b <;> rfl
theorem lF (b:Bool):eG.f b=some (if b=true then 1 else 0):=by
 unfold eG.f
 cases b <;> rfl
theorem pO (op a b:Int):dG.f op a b=some (ap op a b):=by
 unfold dG.f ap
 have hs:=yZ b
 by_cases h1:op=1
 ·rw [if_pos h1,if_pos h1]
 rw [if_neg h1,if_neg h1]
 by_cases h2:op=2
 ·rw [if_pos h2,if_pos h2]
 rw [if_neg h2,if_neg h2]
 by_cases h3:op=3
 ·rw [if_pos h3,if_pos h3]
 rw [if_neg h3,if_neg h3]
 by_cases h4:op=4
 ·rw [if_pos h4,if_pos h4,mE]
  simp
 rw [if_neg h4,if_neg h4]
 by_cases h5:op=5
 ·rw [if_pos h5,if_pos h5,mE]
  simp
 rw [if_neg h5,if_neg h5]
 by_cases h6:op=6
 ·rw [if_pos h6,if_pos h6,if_pos hs.1,gH,Option.bind_some]
 rw [if_neg h6,if_neg h6]
 by_cases h7:op=7
 ·rw [if_pos h7,if_pos h7,if_pos hs.1]
 rw [if_neg h7,if_neg h7]
 by_cases h8:op=8
 ·rw [if_pos h8,if_pos h8,gH,Option.bind_some,kD]
 rw [if_neg h8,if_neg h8]
 by_cases h9:op=9
 ·rw [if_pos h9,if_pos h9,gH,Option.bind_some,kD]
 rw [if_neg h9,if_neg h9]
 by_cases j3:op=10
 ·rw [if_pos j3,if_pos j3,gH,Option.bind_some,kD]
 rw [if_neg j3,if_neg j3]
 by_cases j4:op=11
 ·rw [if_pos j4,if_pos j4]
  by_cases hb:b=0
  ·rw [if_pos hb,if_pos hb]
  ·rw [if_neg hb,if_neg hb,gH,Option.bind_some,kD]
 rw [if_neg j4,if_neg j4]
 by_cases hb:b=0
 ·rw [if_pos hb,if_pos hb]
 ·rw [if_neg hb,if_neg hb]
theorem pU (op a b:Int) (ho:1≤op∧op≤12) (ha:vw a=true) (hb:vw b=true):EvP (fun k=>aX.f k op a b) (·=(ap op a b,true)):=by
  have hs:=yZ b
  unfold aX.f ap
  refine EvP.dZ (kV op) (EvP.yes (by simp;exact ho) (EvP.dZ (kC a) (EvP.yes ha (EvP.dZ (kC b) ?_))))
  rw [hb]
  refine EvP.step (fun k=>aX.j0.eq_2 (k:=k) ..) (EvP.no (by simp) ?_)
  refine EvP.ite (fun h=>EvP.ret (by rw [if_pos h])) (fun h=>?_)
  rw [if_neg h]
  refine EvP.ite (fun h=>EvP.ret (by rw [if_pos h])) (fun h=>?_)
  rw [if_neg h]
  refine EvP.ite (fun h=>EvP.ret (by rw [if_pos h])) (fun h=>?_)
  rw [if_neg h]
  refine EvP.ite (fun h=>EvP.dZ (lF _) (EvP.ret (by rw [if_pos h];simp))) (fun h=>?_)
  rw [if_neg h]
  refine EvP.ite (fun h=>EvP.dZ (lF _) (EvP.ret (by rw [if_pos h];simp))) (fun h=>?_)
  rw [if_neg h]
  refine EvP.ite (fun h=>?_) (fun h=>?_)
  · rw [if_pos h]
    unfold dP.f
    rw [if_neg (by simp),if_pos hs.1,gJ,Option.bind_some]
    exact EvP.dZ rfl (EvP.ret rfl)
  rw [if_neg h]
  refine EvP.ite (fun h=>?_) (fun h=>?_)
  · rw [if_pos h]
    unfold dP.f
    rw [if_pos rfl,if_pos hs.1]
    exact EvP.dZ rfl (EvP.ret rfl)
  rw [if_neg h]
  refine EvP.ite (fun h=>EvP.dZ (gJ _) (EvP.ret (by rw [if_pos h,kD]))) (fun h=>?_)
  rw [if_neg h]
  refine EvP.ite (fun h=>EvP.dZ (gJ _) (EvP.ret (by rw [if_pos h,kD]))) (fun h=>?_)
  rw [if_neg h]
  refine EvP.ite (fun h=>EvP.dZ (gJ _) (EvP.ret (by rw [if_pos h,kD]))) (fun h=>?_)
  rw [if_neg h]
  refine EvP.ite (fun h=>?_) (fun h=>?_)
  · rw [if_pos h]
    unfold fI.f
    by_cases hz:b=0
    · rw [if_pos hz,if_pos hz]
      exact EvP.dZ rfl (EvP.ret rfl)
    · rw [if_neg hz,if_neg hz,gJ,Option.bind_some,kD]
      exact EvP.dZ rfl (EvP.ret rfl)
  rw [if_neg h]
  unfold fJ.f
  by_cases hz:b=0
  · rw [if_pos hz,if_pos hz]
    exact EvP.dZ rfl (EvP.ret rfl)
  · rw [if_neg hz,if_neg hz]
    exact EvP.dZ rfl (EvP.ret rfl)
mutual
def trE:S24→S28
 |⟨a,b,l⟩=>⟨a,b,lY l⟩
def lY:List S24→List S28
 |[]=>[]
 |x :: xs=>trE x :: lY xs
end
mutual
def iJ:S24→Nat
 |⟨_,_,l⟩=>fH l
def fH:List S24→Nat
 |[]=>0
 |x :: xs=>iJ x + 1 + fH xs
end
theorem xS (x:S24):trE x=⟨x.f0,x.f1,lY x.f2⟩:=by
 cases x
 rw [trE]
theorem sF (x:S24):iJ x=fH x.f2:=by
 cases x
 rw [iJ]
theorem nT:∀ l:List S24,(lY l).length=l.length
 |[]=>by rw [lY];rfl
 |x :: xs=>by rw [lY,List.length_cons,List.length_cons,nT xs]
theorem gG:∀ l:List S24,l.length≤fH l
 |[]=>Nat.zero_le _
 |x :: xs=>by
  have:=gG xs
  rw [fH,List.length_cons]
  omega
theorem nI:∀ (l:List S24) (x:S24),x ∈ l→iJ x≤fH l
 |y :: ys,x,h=>by
  rw [fH]
  rcases List.mem_cons.1 h with rfl|h
  ·omega
  ·have:=nI ys x h
   omega
theorem uX (l:List S24) (i:Nat) (h:i < l.length):fH (l.drop i)=iJ l[i] + 1 + fH (l.drop (i + 1)):=by
 rw [List.drop_eq_getElem_cons h,fH]
theorem sK {P:S24→Prop} (h:∀ e:S24,(∀ x ∈ e.f2,P x)→P e) (e:S24):P e:=
 S24.rec (motive_1:=P) (motive_2:=fun l=>∀ x ∈ l,P x) (fun a b l ih=>h ⟨a,b,l⟩ ih) (fun x hx=>by simp at hx) (fun y ys h1 h2 x hx=>by
  rcases List.mem_cons.1 hx with rfl|hx
  ·exact h1
  ·exact h2 x hx) e
theorem uM (l:List S24) (i:Nat) (h:i < l.length):cO l (i:Int)=l[i]:=by
 unfold cO
 rw [Int.toNat_natCast,List.getD_eq_getElem?_getD,List.getElem?_eq_getElem h]
 rfl
def lefts (c:Nat) (n:Int):Int:=if (c:Int)≤n then n - c else -1
theorem vL (l:List S24) (hl:l.length≤1048576) (he:∀ x ∈ l,∀ n:Int,0≤n→n≤1048576→EvP (fun k=>aT.f k x.f0 x.f1 x.f2 n) (·=lefts (iJ x) n)):
    ∀ (d j:Nat) (n:Int),j + d=l.length→0≤n→n≤1048576→EvP (fun k=>aL.l0 k l n (j:Int)) (·=lefts (fH (l.drop j) - d) n):=by
  intro d
  induction d with
  |zero=>
    intro j n hj h0 h1
    refine EvP.step (fun k=>aL.l0.eq_2 (k:=k) ..) (EvP.no (by omega) (EvP.ret ?_))
    rw [List.drop_eq_nil_of_le (by omega)]
    unfold lefts
    rw [if_pos (by simp [fH];omega)]
    simp [fH]
  |succ d ih=>
    intro j n hj h0 h1
    have hlt:j < l.length:=by omega
    have hc:=uX l j hlt
    have hd:d≤fH (l.drop (j + 1)):=by
      have:=gG (l.drop (j + 1))
      rw [List.length_drop] at this
      omega
    refine EvP.step (fun k=>aL.l0.eq_2 (k:=k) ..) (EvP.yes (by omega) (EvP.yes (by omega) ?_))
    rw [uM l j hlt,w64 (n:=(j:Int) + 1) (by omega) (by omega)]
    refine EvP.bR (he _ (List.getElem_mem hlt) n h0 h1) ?_
    by_cases h2:(iJ l[j]:Int)≤n
    · have e:lefts (iJ l[j]) n=n - iJ l[j]:=if_pos h2
      rw [e]
      refine EvP.no (by omega) ?_
      refine (ih (j + 1) (n - iJ l[j]) (by omega) (by omega) (by omega)).mono fun a ha=>?_
      rw [ha]
      unfold lefts
      by_cases h3:((fH (l.drop (j + 1)) - d:Nat):Int)≤n - iJ l[j]
      · rw [if_pos h3,if_pos (by omega)]
        omega
      · rw [if_neg h3,if_neg (by omega)]
    · have e:lefts (iJ l[j]) n= -1:=if_neg h2
      rw [e]
      refine EvP.yes (by omega) (EvP.ret ?_)
      unfold lefts
      rw [if_neg (by omega)]
theorem vM (l:List S24) (hl:l.length≤maxLen) (he:∀ x ∈ l,∀ n:Int,0≤n→n≤1048576→EvP (fun k=>aT.f k x.f0 x.f1 x.f2 n) (·=lefts (iJ x) n)) (n:Int) (h0:0≤n) (h1:n≤1048576):
    EvP (fun k=>aL.f k l n) (·=lefts (fH l) n):=by
  have hm:maxLen=9223372036854775807:=rfl
  have hc:=gG l
  refine EvP.step (fun k=>aL.f.eq_2 (k:=k) ..) ?_
  rw [w64 (by omega) (by omega)]
  refine EvP.ite (fun h=>EvP.ret ?_) (fun h=>?_)
  · unfold lefts
    rw [if_neg (by omega)]
  · refine (vL l (by omega) he l.length 0 (n - l.length) (by omega) (by omega) (by omega)).mono fun a ha=>?_
    rw [ha,List.drop_zero]
    unfold lefts
    by_cases h3:((fH l - l.length:Nat):Int)≤n - l.length
    · rw [if_pos h3,if_pos (by omega)]
      omega
    · rw [if_neg h3,if_neg (by omega)]
theorem wN (e:S24):tV e→∀ n:Int,0≤n→n≤1048576→EvP (fun k=>aT.f k e.f0 e.f1 e.f2 n) (·=lefts (iJ e) n):=by
  refine sK (P:=fun e=>tV e→∀ n:Int,0≤n→n≤1048576→EvP (fun k=>aT.f k e.f0 e.f1 e.f2 n) (·=lefts (iJ e) n)) (fun e ih hw n h0 h1=>?_) e
  cases hw with
  |mk _ _ _ hl hx=>
    refine EvP.step (fun k=>aT.f.eq_2 (k:=k) ..) ?_
    refine EvP.bR (vM e.f2 hl (fun x hm=>ih x hm (hx x hm)) n h0 h1) ?_
    rw [sF]
    refine EvP.ite (fun h=>EvP.ret ?_) (fun h=>EvP.ret rfl)
    unfold lefts at h ⊢
    by_cases h3:(fH e.f2:Int)≤n
    · rw [if_pos h3] at h
      omega
    · rw [if_neg h3]
theorem vN (l:List S24) (hl:l.length≤1048576) (he:∀ x ∈ l,EvP (fun k=>bD.f k x.f0 x.f1 x.f2) (·=tri (trE x))):
    ∀ (d j:Nat) (m:List S28),j + d=l.length→m.length=l.length→EvP (fun k=>aU.l0 k l m (j:Int)) (·=m.take j ++ lY (l.drop j)):=by
  intro d
  induction d with
  |zero=>
    intro j m hj hm
    refine EvP.step (fun k=>aU.l0.eq_2 (k:=k) ..) (EvP.no (by omega) (EvP.ret ?_))
    rw [List.drop_eq_nil_of_le (by omega),List.take_of_length_le (by omega)]
    simp [lY]
  |succ d ih=>
    intro j m hj hm
    have hlt:j < l.length:=by omega
    refine EvP.step (fun k=>aU.l0.eq_2 (k:=k) ..) (EvP.yes (by omega) (EvP.yes (by omega) ?_))
    rw [uM l j hlt,w64 (n:=(j:Int) + 1) (by omega) (by omega),Int.toNat_natCast]
    refine EvP.bR (he _ (List.getElem_mem hlt)) (EvP.yes (by omega) ?_)
    simp only [tri,vB]
    refine (ih (j + 1) (m.set j (trE l[j])) (by omega) (by rw [List.length_set];exact hm)).mono fun a ha=>?_
    rw [ha,List.take_succ_eq_append_getElem (by rw [List.length_set];omega),List.getElem_set_self,List.take_set_of_le (by omega),List.append_assoc,List.drop_eq_getElem_cons hlt,lY]
    rfl
theorem vO (l:List S24) (hl:l.length≤1048576) (he:∀ x ∈ l,EvP (fun k=>bD.f k x.f0 x.f1 x.f2) (·=tri (trE x))):EvP (fun k=>aU.f k l) (·=lY l):=by
  refine EvP.step (fun k=>aU.f.eq_2 (k:=k) ..) (EvP.yes (by omega) (EvP.yes (by omega) ?_))
  exact vN l hl he l.length 0 _ (by omega) (by rw [List.length_replicate];omega)
theorem wO (e:S24):iJ e≤1048576→EvP (fun k=>bD.f k e.f0 e.f1 e.f2) (·=tri (trE e)):=by
  refine sK (P:=fun e=>iJ e≤1048576→EvP (fun k=>bD.f k e.f0 e.f1 e.f2) (·=tri (trE e))) (fun e ih hc=>?_) e
  rw [sF] at hc
  have hl:=gG e.f2
  refine EvP.step (fun k=>bD.f.eq_2 (k:=k) ..) ?_
  refine EvP.bR (vO e.f2 (by omega) (fun x hm=>ih x hm (by have:=nI e.f2 x hm;omega))) (EvP.ret ?_)
  rw [xS]
  rfl
theorem uY (m:List S28) (hl:m.length≤1048576) (he:∀ x ∈ m,EvP (fun k=>aR.f k x.f0 x.f1 x.f2 x.f0 x.f1 x.f2) (·=true)):
    ∀ (d j:Nat),j + d=m.length→EvP (fun k=>aG.l0 k m m (j:Int)) (·=true):=by
  intro d
  induction d with
  |zero=>
    intro j hj
    exact EvP.step (fun k=>aG.l0.eq_2 (k:=k) ..) (EvP.no (by omega) (EvP.ret rfl))
  |succ d ih=>
    intro j hj
    have hlt:j < m.length:=by omega
    refine EvP.step (fun k=>aG.l0.eq_2 (k:=k) ..) (EvP.yes (by omega) (EvP.yes (by omega) (EvP.yes (by omega) ?_)))
    rw [sS m j hlt,w64 (n:=(j:Int) + 1) (by omega) (by omega)]
    exact EvP.bR (he _ (List.getElem_mem hlt)) (EvP.yes rfl (ih (j + 1) (by omega)))
theorem uZ (m:List S28) (hl:m.length≤1048576) (he:∀ x ∈ m,EvP (fun k=>aR.f k x.f0 x.f1 x.f2 x.f0 x.f1 x.f2) (·=true)):EvP (fun k=>aG.f k m m) (·=true):=
  EvP.step (fun k=>aG.f.eq_2 (k:=k) ..) (EvP.yes rfl (uY m hl he m.length 0 (by omega)))
inductive Short:S28→Prop
 |mk (x:S28) (h:x.f2.length≤1048576) (g:∀ y ∈ x.f2,Short y):Short x
theorem kN (e:S28) (h:Short e):EvP (fun k=>aR.f k e.f0 e.f1 e.f2 e.f0 e.f1 e.f2) (·=true):=by
  induction h with
  |mk x h g ih=>
    refine EvP.step (fun k=>aR.f.eq_2 (k:=k) ..) (EvP.yes rfl (EvP.yes rfl ?_))
    exact EvP.bR (uZ x.f2 h ih) (EvP.yes rfl (EvP.ret rfl))
theorem xU {l:List S24} {y:S28} (h:y ∈ lY l):∃ x ∈ l,y=trE x:=by
 induction l with
 |nil=>simp [lY] at h
 |cons a l ih=>
  rw [lY] at h
  rcases List.mem_cons.1 h with rfl|h
  ·exact ⟨a,List.mem_cons_self,rfl⟩
  ·obtain ⟨x,hx,e⟩:=ih h
   exact ⟨x,List.mem_cons_of_mem _ hx,e⟩
theorem wM (e:S24):iJ e≤1048576→Short (trE e):=by
 refine sK (P:=fun e=>iJ e≤1048576→Short (trE e)) (fun e ih hc=>?_) e
 rw [sF] at hc
 have hl:=gG e.f2
 rw [xS]
 refine .mk _ (by rw [nT];omega) fun y hy=>?_
 obtain ⟨x,hx,rfl⟩:=xU hy
 exact ih x hx (by have:=nI e.f2 x hx;omega)
theorem nN:∀ x:X,Short (emb x)
 | .num _=> .mk _ (by simp [emb]) (fun y hy=>by simp [emb] at hy)
 | .var _=> .mk _ (by simp [emb]) (fun y hy=>by simp [emb] at hy)
 | .bin _ a b=> .mk _ (by simp [emb]) (fun y hy=>by
  simp only [emb,List.mem_cons,List.not_mem_nil,or_false] at hy
  rcases hy with rfl|rfl
  ·exact nN a
  ·exact nN b)
mutual
def nE:S28→Nat
 |⟨_,_,l⟩=>nEs l + 1
def nEs:List S28→Nat
 |[]=>0
 |x :: xs=>nE x + nEs xs
end
mutual
def mkE:S28→Int→S28
 |⟨_,_,l⟩,n=>⟨n,n + 1,iK l (n + 2)⟩
def iK:List S28→Int→List S28
 |[],_=>[]
 |x :: xs,n=>mkE x n :: iK xs (n + 2 * nE x)
end
theorem sO (x:S28):nE x=nEs x.f2 + 1:=by
 cases x
 rw [nE]
theorem AP (x:S28) (n:Int):mkE x n=⟨n,n + 1,iK x.f2 (n + 2)⟩:=by
 cases x
 rw [mkE]
theorem nR:∀ (l:List S28) (n:Int),(iK l n).length=l.length
 |[],_=>by rw [iK]
 |x :: xs,n=>by rw [iK,List.length_cons,List.length_cons,nR xs]
theorem iO:∀ l:List S28,l.length≤nEs l
 |[]=>Nat.zero_le _
 |x :: xs=>by
  have:=iO xs
  rw [nEs,List.length_cons,sO]
  omega
theorem uJ (l:List S28) (i:Nat) (h:i < l.length):nEs (l.drop i)=nE l[i] + nEs (l.drop (i + 1)):=by
 rw [List.drop_eq_getElem_cons h,nEs]
theorem AL {P:S28→Prop} (h:∀ e:S28,(∀ x ∈ e.f2,P x)→P e) (e:S28):P e:=
 S28.rec (motive_1:=P) (motive_2:=fun l=>∀ x ∈ l,P x) (fun a b l ih=>h ⟨a,b,l⟩ ih) (fun x hx=>by simp at hx) (fun y ys h1 h2 x hx=>by
  rcases List.mem_cons.1 hx with rfl|hx
  ·exact h1
  ·exact h2 x hx) e
theorem sN (l:List S28) (hL:l.length≤1099511627776) (he:∀ x ∈ l,∀ n:Int,0≤n→n + 2 * nEs x.f2≤1099511627776→EvP (fun k=>aM.f k x.f2 n) (·=(n + 2 * nEs x.f2,iK x.f2 n))):
    ∀ (d j:Nat) (m:List S28) (n:Int),j + d=l.length→m.length=l.length→m.drop j=l.drop j→0≤n→n + 2 * nEs (l.drop j)≤1099511627776→EvP (fun k=>aM.l0 k m n (j:Int)) (·=(n + 2 * nEs (l.drop j),m.take j ++ iK (l.drop j) n)):=by
  intro d
  induction d with
  |zero=>
    intro j m n hj hm hd h0 h1
    refine EvP.step (fun k=>aM.l0.eq_2 (k:=k) ..) (EvP.no (by omega) (EvP.ret ?_))
    rw [List.drop_eq_nil_of_le (by omega),List.take_of_length_le (by omega),nEs,iK]
    simp
  |succ d ih=>
    intro j m n hj hm hd h0 h1
    have hlt:j < l.length:=by omega
    have hc:=uJ l j hlt
    have hn:=sO l[j]
    have hl:=iO (l.drop j)
    rw [List.length_drop] at hl
    have hg:m[j]'(by omega)=l[j]:=by
      have h2:=congrArg (·[0]?) hd
      simp only [List.getElem?_drop,Nat.add_zero] at h2
      rw [List.getElem?_eq_getElem (by omega),List.getElem?_eq_getElem hlt] at h2
      exact Option.some.inj h2
    refine EvP.step (fun k=>aM.l0.eq_2 (k:=k) ..) (EvP.yes (by omega) (EvP.yes (by omega) ?_))
    rw [sS m j (by omega),hg,w64 (n:=n + 1) (by omega) (by omega),w64 (n:=n + 1 + 1) (by omega) (by omega),w64 (n:=(j:Int) + 1) (by omega) (by omega),Int.toNat_natCast]
    refine EvP.bR (he _ (List.getElem_mem hlt) (n + 1 + 1) (by omega) (by omega)) ?_
    dsimp only
    refine (ih (j + 1) (m.set j _) (n + 1 + 1 + 2 * nEs l[j].f2) (by omega) (by rw [List.length_set];exact hm) ?_ (by omega) (by omega)).mono fun a ha=>?_
    · rw [List.drop_set_of_lt (by omega),← List.drop_drop,hd,List.drop_drop]
    · rw [ha,List.take_succ_eq_append_getElem (by rw [List.length_set];omega),List.getElem_set_self,List.take_set_of_le (by omega),List.append_assoc,List.drop_eq_getElem_cons hlt,nEs,iK,AP]
      rw [show n + 1 + 1=n + 2 by omega,show n + 2 + 2 * (nEs l[j].f2:Int)=n + 2 * (nE l[j]:Int) by omega]
      refine Prod.ext ?_ ?_
      · show n + 2 * (nE l[j]:Int) + 2 * (nEs (l.drop (j + 1)):Int)=n + 2 * ((nE l[j] + nEs (l.drop (j + 1)):Nat):Int)
        omega
      · rfl
theorem mY (l:List S28) (he:∀ x ∈ l,∀ n:Int,0≤n→n + 2 * nEs x.f2≤1099511627776→EvP (fun k=>aM.f k x.f2 n) (·=(n + 2 * nEs x.f2,iK x.f2 n))) (n:Int) (h0:0≤n) (h1:n + 2 * nEs l≤1099511627776):
    EvP (fun k=>aM.f k l n) (·=(n + 2 * nEs l,iK l n)):=
  EvP.step (fun k=>aM.f.eq_2 (k:=k) ..) (sN l (by have:=iO l;omega) he l.length 0 l n (by omega) rfl rfl h0 h1)
theorem sM (x:S28):∀ n:Int,0≤n→n + 2 * nEs x.f2≤1099511627776→EvP (fun k=>aM.f k x.f2 n) (·=(n + 2 * nEs x.f2,iK x.f2 n)):=
  AL (P:=fun x=>∀ n:Int,0≤n→n + 2 * nEs x.f2≤1099511627776→EvP (fun k=>aM.f k x.f2 n) (·=(n + 2 * nEs x.f2,iK x.f2 n))) (fun e ih n h0 h1=>mY e.f2 ih n h0 h1) x
theorem mX (l:List S28) (n:Int) (h0:0≤n) (h1:n + 2 * nEs l≤1099511627776):EvP (fun k=>aM.f k l n) (·=(n + 2 * nEs l,iK l n)):=
  mY l (fun x _=>sM x) n h0 h1
theorem sJ (l:List S28) (hL:l.length≤1099511627776) (he:∀ x ∈ l,∀ n:Int,0≤n→n + 2 * nEs x.f2≤1099511627776→EvP (fun k=>aI.f k (iK x.f2 n) n) (·=n + 2 * nEs x.f2)):
    ∀ (d j:Nat) (m:List S28) (n:Int),j + d=l.length→m.length=l.length→m.drop j=iK (l.drop j) n→0≤n→n + 2 * nEs (l.drop j)≤1099511627776→EvP (fun k=>aI.l0 k m n (j:Int)) (·=n + 2 * nEs (l.drop j)):=by
  intro d
  induction d with
  |zero=>
    intro j m n hj hm hd h0 h1
    refine EvP.step (fun k=>aI.l0.eq_2 (k:=k) ..) (EvP.no (by omega) (EvP.ret ?_))
    rw [List.drop_eq_nil_of_le (by omega),nEs]
    simp
  |succ d ih=>
    intro j m n hj hm hd h0 h1
    have hlt:j < l.length:=by omega
    have hc:=uJ l j hlt
    have hn:=sO l[j]
    have hl:=iO (l.drop j)
    rw [List.length_drop] at hl
    rw [List.drop_eq_getElem_cons (show j < m.length by omega),List.drop_eq_getElem_cons hlt,iK] at hd
    injection hd with hg hd
    rw [AP] at hg
    refine EvP.step (fun k=>aI.l0.eq_2 (k:=k) ..) (EvP.yes (by omega) (EvP.yes (by omega) ?_))
    rw [sS m j (by omega),hg,w64 (n:=n + 1) (by omega) (by omega),w64 (n:=n + 1 + 1) (by omega) (by omega),w64 (n:=(j:Int) + 1) (by omega) (by omega)]
    dsimp only
    refine EvP.yes rfl (EvP.yes rfl ?_)
    rw [show n + 1 + 1=n + 2 by omega]
    refine EvP.bR (he _ (List.getElem_mem hlt) (n + 2) (by omega) (by omega)) (EvP.no (by omega) ?_)
    refine (ih (j + 1) m (n + 2 + 2 * nEs l[j].f2) (by omega) hm ?_ (by omega) (by omega)).mono fun a ha=>?_
    · rw [hd,show n + 2 + 2 * (nEs l[j].f2:Int)=n + 2 * (nE l[j]:Int) by omega]
    · rw [ha]
      omega
theorem mU (l:List S28) (he:∀ x ∈ l,∀ n:Int,0≤n→n + 2 * nEs x.f2≤1099511627776→EvP (fun k=>aI.f k (iK x.f2 n) n) (·=n + 2 * nEs x.f2)) (n:Int) (h0:0≤n) (h1:n + 2 * nEs l≤1099511627776):
    EvP (fun k=>aI.f k (iK l n) n) (·=n + 2 * nEs l):=
  EvP.step (fun k=>aI.f.eq_2 (k:=k) ..) (sJ l (by have:=iO l;omega) he l.length 0 _ n (by omega) (nR l n) rfl h0 h1)
theorem sI (x:S28):∀ n:Int,0≤n→n + 2 * nEs x.f2≤1099511627776→EvP (fun k=>aI.f k (iK x.f2 n) n) (·=n + 2 * nEs x.f2):=
  AL (P:=fun x=>∀ n:Int,0≤n→n + 2 * nEs x.f2≤1099511627776→EvP (fun k=>aI.f k (iK x.f2 n) n) (·=n + 2 * nEs x.f2)) (fun e ih n h0 h1=>mU e.f2 ih n h0 h1) x
theorem sH (l:List S28) (n:Int) (h0:0≤n) (h1:n + 2 * nEs l≤1099511627776):EvP (fun k=>aI.f k (iK l n) n) (·=n + 2 * nEs l):=
  mU l (fun x _=>sI x) n h0 h1
theorem uD (a b:Int) (l:List S28) (n:Int) (h0:0≤n) (h1:n + 2 * nEs l≤1099511627776):EvP (fun k=>bZ.f k a b (iK l n) n) (·=n + 2 * nEs l):=
  EvP.bR (sH l n h0 h1) (EvP.no (by omega) (EvP.ret rfl))
theorem vE:∀ x:X,nE (emb x)=x.size
 | .num _=>by rw [sO];simp [emb,nEs,X.size]
 | .var _=>by rw [sO];simp [emb,nEs,X.size]
 | .bin _ a b=>by
  have ha:=vE a
  have hb:=vE b
  rw [sO]
  simp only [emb,nEs,X.size]
  omega
theorem uK:∀ l:List S24,(∀ x ∈ l,nE (trE x)=iJ x + 1)→nEs (lY l)=fH l
 |[],_=>by rw [lY,nEs,fH]
 |x :: xs,h=>by
  rw [lY,nEs,fH,h x List.mem_cons_self,uK xs (fun y hy=>h y (List.mem_cons_of_mem _ hy))]
theorem BX (x:S24):nE (trE x)=iJ x + 1:=
 sK (P:=fun x=>nE (trE x)=iJ x + 1) (fun e ih=>by rw [xS,sO,sF,uK e.f2 ih]) x
theorem yS (x:X) (hd:x.depth≤5):x.size≤31:=by
 have h1:=X.mP x
 have h2:2 ^ x.depth≤2 ^ 5:=Nat.pow_le_pow_right (by omega) hd
 omega
theorem sG {x:X} (h:x.ok):(emb x).f0=0 ↔ ∃ n,x= .num n:=by
 cases x with
 |num n=>exact ⟨fun _=>⟨n,rfl⟩,fun _=>rfl⟩
 |var v=>
  refine ⟨fun e=>?_,fun ⟨n,e⟩=>by cases e⟩
  simp [emb] at e
 |bin op a b=>
  refine ⟨fun e=>?_,fun ⟨n,e⟩=>by cases e⟩
  have e:op=0:=e
  have ho:=h.1
  omega
theorem gN:∀ x:X,x.ok→EvP (fun k=>aK.f k (emb x).f0 (emb x).f1 (emb x).f2) (·=tri (emb x.fold))
  | .num n,h=>EvP.step (fun k=>aK.f.eq_2 (k:=k) ..) (EvP.yes rfl (EvP.ret rfl))
  | .var v,h=>EvP.step (fun k=>aK.f.eq_2 (k:=k) ..) (EvP.yes rfl (EvP.ret rfl))
  | .bin op a b,h=>by
    have ha:=X.lT a h.2.1
    have hb:=X.lT b h.2.2
    have he:(X.bin op a b).fold=X.kH op a.fold b.fold:=rfl
    rw [he]
    refine EvP.step (fun k=>aK.f.eq_2 (k:=k) ..) (EvP.no (by simp [emb]) (EvP.yes (by simp [emb]) ?_))
    refine EvP.bR (gN a h.2.1) (EvP.yes (by simp [emb]) (EvP.bR (gN b h.2.2) ?_))
    generalize a.fold=x at ha ⊢
    generalize b.fold=y at hb ⊢
    simp only [tri]
    have stay:(¬ ∃ m n,x= .num m∧y= .num n)→X.kH op x y= .bin op x y:=fun hn=>X.tY fun m n e1 e2=>absurd ⟨m,n,e1,e2⟩ hn
    refine EvP.ite (fun hx=>?_) (fun hx=>?_)
    · obtain ⟨m,rfl⟩:=(sG ha).1 hx
      refine EvP.step (fun k=>aK.j0.eq_2 (k:=k) ..) (EvP.ite (fun hy=>?_) (fun hy=>EvP.ret ?_))
      · obtain ⟨n,rfl⟩:=(sG hb).1 (by simpa using hy)
        refine EvP.dZ (pO _ _ _) ?_
        simp only [emb,X.kH]
        refine EvP.ite (fun h1=>EvP.ite (fun h2=>EvP.ret ?_) (fun h2=>EvP.ret ?_)) (fun h1=>EvP.ret ?_)
        · rw [if_pos ⟨h1,h2⟩]
          rfl
        · rw [if_neg (fun e=>h2 e.2)]
          rfl
        · rw [if_neg (fun e=>h1 e.1)]
          rfl
      · rw [stay (fun ⟨m',n,_,e⟩=>hy (by rw [e];rfl))]
        simp only [emb,vB]
    · refine EvP.step (fun k=>aK.j0.eq_2 (k:=k) ..) (EvP.no (by simp) (EvP.ret ?_))
      rw [stay (fun ⟨m',n,e,_⟩=>hx (by rw [e];rfl))]
      simp only [emb,vB]
theorem iP:∀ x:X,x.ok→EvP (fun k=>aQ.f k (emb x).f0 (emb x).f1 (emb x).f2) (·=tri (emb x.fold))
  | .num n,h=>EvP.step (fun k=>aQ.f.eq_2 (k:=k) ..) (EvP.yes rfl (EvP.dZ rfl (EvP.ret rfl)))
  | .var v,h=>EvP.step (fun k=>aQ.f.eq_2 (k:=k) ..) (EvP.yes rfl (EvP.dZ rfl (EvP.ret rfl)))
  | .bin op a b,h=>by
    have ha:=X.lT a h.2.1
    have hb:=X.lT b h.2.2
    have he:(X.bin op a b).fold=X.kH op a.fold b.fold:=rfl
    rw [he]
    refine EvP.step (fun k=>aQ.f.eq_2 (k:=k) ..) (EvP.no (by simp [emb]) (EvP.yes (by simp [emb]) ?_))
    refine EvP.bR (iP a h.2.1) (EvP.yes (by simp [emb]) (EvP.bR (iP b h.2.2) ?_))
    generalize a.fold=x at ha ⊢
    generalize b.fold=y at hb ⊢
    simp only [tri]
    have stay:(¬ ∃ m n,x= .num m∧y= .num n)→X.kH op x y= .bin op x y:=fun hn=>X.tY fun m n e1 e2=>absurd ⟨m,n,e1,e2⟩ hn
    refine EvP.ite (fun hx=>?_) (fun hx=>?_)
    · obtain ⟨m,rfl⟩:=(sG ha).1 hx
      refine EvP.step (fun k=>aQ.j0.eq_2 (k:=k) ..) (EvP.ite (fun hy=>?_) (fun hy=>EvP.dZ rfl (EvP.ret ?_)))
      · obtain ⟨n,rfl⟩:=(sG hb).1 (by simpa using hy)
        have hm:0≤m∧m≤99999:=ha
        have hn:0≤n∧n≤99999:=hb
        refine EvP.bR (pU _ _ _ h.1 (xX.2 (by simp only [emb];omega)) (xX.2 (by simp only [emb];omega))) (EvP.dZ (mW _ _ _) ?_)
        simp only [emb,X.kH]
        refine EvP.ite (fun h1=>EvP.dZ rfl (EvP.ret ?_)) (fun h1=>EvP.dZ rfl (EvP.ret ?_))
        · rw [Bool.and_eq_true] at h1
          rw [if_pos ⟨of_decide_eq_true h1.1,of_decide_eq_true h1.2⟩]
          rfl
        · rw [Bool.and_eq_true] at h1
          rw [if_neg (fun e=>h1 ⟨decide_eq_true e.1,decide_eq_true e.2⟩)]
          rfl
      · rw [stay (fun ⟨m',n,_,e⟩=>hy (by rw [e];rfl))]
        simp only [emb,vB]
    · refine EvP.step (fun k=>aQ.j0.eq_2 (k:=k) ..) (EvP.no (by simp) (EvP.dZ rfl (EvP.ret ?_)))
      rw [stay (fun ⟨m',n,e,_⟩=>hx (by rw [e];rfl))]
      simp only [emb,vB]
theorem mV (x:X) (hx:x.ok) (hd:x.depth≤5):EvP (fun k=>bV.f k (emb x).f0 (emb x).f1 (emb x).f2) (·=((emb x.fold).f0,(emb x.fold).f1,(emb x.fold).f2,true)):=by
  unfold bV.f
  refine EvP.bR (iW _ _ _) (EvP.yes (by rw [tF x 5 hx];exact decide_eq_true hd) ?_)
  exact EvP.bR (gN x hx) (EvP.ret rfl)
theorem nG (x:X) (hx:x.ok) (hd:x.depth≤5):EvP (fun k=>bJ.f k (emb x).f0 (emb x).f1 (emb x).f2) (·=((emb x.fold).f0,(emb x.fold).f1,(emb x.fold).f2,true)):=by
  unfold bJ.f
  refine EvP.bR (iZ _ _ _) (EvP.yes (by rw [tF x 5 hx];exact decide_eq_true hd) ?_)
  exact EvP.bR (iP x hx) (EvP.ret rfl)
theorem nK {op n:Int} {l:List S28} (h:vx 5 op n l=false):EvP (fun k=>bV.f k op n l) (·=(0,0,[],false)):=by
  unfold bV.f
  exact EvP.bR (iW _ _ _) (EvP.no (by rw [h];simp) (EvP.ret rfl))
theorem nO {op n:Int} {l:List S28} (h:vx 5 op n l=false):EvP (fun k=>bJ.f k op n l) (·=(0,0,[],false)):=by
  unfold bJ.f
  exact EvP.bR (iZ _ _ _) (EvP.no (by rw [h];simp) (EvP.ret rfl))
end Go.Proofs.Ythiegfpcfedbgaa.PA

namespace Go.Proofs.Ythiegfpcfedbgaa.Pure
open Go.RowKit Go.Proofs.Ythiegfpcfedbgaa.PA Go.Proofs.YthiegfpcfedbgaaW.PrintWords Go.Proofs.YthiegfpcfedbgaaW.PrintLast Go.Proofs.YthiegfpcfedbgaaW.PrintMore Go.Proofs.Ythiegfpcfedbgaa.Core
theorem folds (op n:Int) (l:List S28):∃ r:Int × Int × List S28 × Bool,EvP (fun k=>bJ.f k op n l) (·=r)∧EvP (fun k=>bV.f k op n l) (·=r)∧EvP (fun k=>aR.f k r.1 r.2.1 r.2.2.1 r.1 r.2.1 r.2.2.1) (·=true)∧nEs r.2.2.1≤31:=by
  cases hv:vx 5 op n l with
  |false=>
    exact ⟨_,nO hv,nK hv,kN ⟨0,0,[]⟩ (.mk _ (Nat.zero_le _) (fun y hy=>by simp at hy)),by simp [nEs]⟩
  |true=>
    obtain ⟨x,h1,h2,h3⟩:=tH 5 op n l hv
    have e:op=(emb x).f0∧n=(emb x).f1∧l=(emb x).f2:=by rw [h3];exact ⟨rfl,rfl,rfl⟩
    obtain ⟨rfl,rfl,rfl⟩:=e
    refine ⟨_,nG x h1 h2,mV x h1 h2,kN _ (nN x.fold),?_⟩
    have ha:=vE x.fold
    have hb:=sO (emb x.fold)
    have hc:=X.fold_size x
    have hd:=yS x h2
    show nEs (emb x.fold).f2≤31
    omega
theorem FnExactExprFold:bL.Pure:=by
 intro a0 a1 l _ _ hl0
 refine EvP.ends (r:=true) ?_
 unfold bL.f
 have hw:tV (⟨a0,a1,l⟩:S24):= .mk _ (by assumption) (by assumption) hl0.1 hl0.2
 refine EvP.bR (wN ⟨a0,a1,l⟩ hw 1048576 (by omega) (by omega)) (EvP.ite (fun _=>EvP.ret rfl) (fun h=>?_))
 have hc:iJ (⟨a0,a1,l⟩:S24)≤1048576:=by
  unfold lefts at h
  by_cases h2:(iJ (⟨a0,a1,l⟩:S24):Int)≤1048576
  ·omega
  ·rw [if_neg h2] at h
   omega
 have hto:=wO ⟨a0,a1,l⟩ hc
 have he:=kN _ (wM ⟨a0,a1,l⟩ hc)
 have hn:=BX (⟨a0,a1,l⟩:S24)
 have j3:=sO (trE (⟨a0,a1,l⟩:S24))
 generalize trE (⟨a0,a1,l⟩:S24)=x at hto he hn j3
 obtain ⟨r,h1,h2,h3,h4⟩:=folds x.f0 x.f1 x.f2
 obtain ⟨g0,g1,gl,gb⟩:=r
 dsimp only at h3 h4
 refine EvP.bR hto (EvP.bR h1 (EvP.bR h2 (EvP.bR h3 (EvP.no (by simp) (EvP.no (by simp) ?_)))))
 refine EvP.bR he (EvP.no (by simp) ?_)
 refine EvP.bR (mX x.f2 1 (by omega) (by omega)) (EvP.no (by show ¬ (1 + 2 * (nEs x.f2:Int) < 0);omega) ?_)
 refine EvP.bR (mX gl 1 (by omega) (by omega)) ?_
 exact EvP.bR (uD g0 g1 gl 1 (by omega) (by omega)) (EvP.no (by omega) (EvP.no (by simp) (EvP.ret rfl)))
end Go.Proofs.Ythiegfpcfedbgaa.Pure

