/- Part 6. -/
import Derived.Test.YtjamfkpgmkhbnaaGreatDoorQFnSourceParts4
import Derived.Test.YtjamfkpgmkhbnaaGreatDoorRows
import Derived.ProofKit
import Derived.LaidMore
import Derived.Stop.Joined
import Derived.Stop.LaidErr
import Derived.MakeChecks
import Derived.Lib.LaidTab
import Derived.ChangeOld
import Derived.ChangeVars
set_option maxHeartbeats 8000000
set_option maxRecDepth 100000
namespace Go.Proofs.YtjamfkpgmkhbnaaGreatDoor.PA
open Go.RowKit Go.Proofs.YtjamfkpgmkhbnaaGreatDoorW.PrintWords Go.Proofs.YtjamfkpgmkhbnaaGreatDoor.Core
theorem WR (x y:Int) (hx:0≤x) (j3:x < 4611686018427387904) (hy:0≤y) (j4:y < 4611686018427387904):0≤Go.bits .xor .i64 x y:=by
 obtain ⟨a,rfl⟩:=Int.eq_ofNat_of_zero_le hx
 obtain ⟨b,rfl⟩:=Int.eq_ofNat_of_zero_le hy
 have ha:a < 2 ^ 62:=by omega
 have hb:b < 2 ^ 62:=by omega
 have hx:=Nat.xor_lt_two_pow ha hb
 simp only [Go.bits,BitVec.ofInt_natCast,BitVec.toNat_xor,BitVec.toNat_ofNat]
 rw [show IntKind.i64.bits=64 from rfl,Nat.mod_eq_of_lt (a:=a) (by omega),Nat.mod_eq_of_lt (a:=b) (by omega),IntKind.wrap_i64]
 omega
def Bytes (b:List Int):Prop:=b.length≤2000∧∀ x ∈ b,0≤x∧x≤255
theorem Bytes.rd {b:List Int} (h:Bytes b) (i:Int) (h0:0≤i) (h1:i < b.length):0≤Go.Proofs.YtjamfkpgmkhbnaaGreatDoorW.PrintWords.rd b i∧Go.Proofs.YtjamfkpgmkhbnaaGreatDoorW.PrintWords.rd b i≤255:=h.2 _ (aDm b i h0 h1)
theorem WC (l:List Int) (hl:l.length≤140737488351232) (hw:∀ x ∈ l,(Lit.int .u8 x).wf=true):∃ b,nQ.f l=some (b,0)∧Bytes b:=by
 have hb:∀ x ∈ l,0≤x∧x≤255:=by
  intro x hx
  have h:=hw x hx
  simp only [Lit.wf,Bool.and_eq_true,decide_eq_true_eq] at h
  have e1:IntKind.u8.min=0:=by decide
  have e2:IntKind.u8.max=255:=by decide
  omega
 unfold nQ.f
 by_cases h:(l.length:Int) > 2000
 ·rw [if_pos h,if_pos (by omega)]
  exact ⟨_,rfl,by rw [List.length_take];omega,fun x hx=>hb x (List.mem_of_mem_take hx)⟩
 ·rw [if_neg h]
  exact ⟨_,rfl,by omega,hb⟩
def aFx (p n:Int) (r:Int × Int):Prop:=r.2=p + 1∧0≤r.1∧(1≤n→r.1 < n)∧(n < 1→r.1=0)
theorem aEx (b:List Int) (hb:Bytes b) (p n:Int) (h0:0≤p) (h1:p≤1000000000000):EvP (fun k=>aG.f k b p n) (aFx p n):=by
 unfold aG.f
 rw [w64 (n:=p + 1) (by omega) (by omega)]
 have hz:EvP (fun k=>aG.j0 k n true b (p + 1)) (fun r=>r.2=p + 1∧r.1=0):=
  EvP.step (fun k=>aG.j0.eq_2 (k:=k) ..) (EvP.yes rfl (EvP.ret ⟨rfl,rfl⟩))
 refine EvP.ite (fun h=>?_) (fun h=>?_)
 ·exact hz.mono fun r hr=>⟨hr.1,by omega,fun _=>by omega,fun _=>hr.2⟩
 ·cases hl:((b.length:Int) == 0) with
  |true=>exact hz.mono fun r hr=>⟨hr.1,by omega,fun _=>by omega,fun _=>hr.2⟩
  |false=>
   have hl':(b.length:Int)≠0:=by simpa using hl
   have hbl:=hb.1
   refine EvP.step (fun k=>aG.j0.eq_2 (k:=k) ..) (EvP.no (by decide) ?_)
   rw [w64 (n:=p + 1 - 1) (by omega) (by omega),show p + 1 - 1=p by omega]
   refine EvP.ite (fun h2=>?_) (fun h2=>?_)
   ·refine EvP.yes h0 (EvP.no (by omega) (EvP.ret ?_))
    have hr:=hb.rd p h0 h2
    rw [w64 (by omega) (by omega)]
    have ht:=DX hr.1 (show 0 < n by omega)
    exact ⟨rfl,ht.1,fun _=>ht.2,fun _=>by omega⟩
   ·have t1:=DX h0 (show (0:Int) < b.length by omega)
    have t2:=DX (show 0≤p * 7 + 3 by omega) (show (0:Int) < b.length by omega)
    rw [w64 (n:=p * 7) (by omega) (by omega),w64 (n:=p * 7 + 3) (by omega) (by omega)]
    refine EvP.no hl' (EvP.yes t1.1 (EvP.yes t1.2 (EvP.yes t2.1 (EvP.yes t2.2 (EvP.no (by omega) (EvP.ret ?_))))))
    have r1:=hb.rd _ t1.1 t1.2
    have r2:=hb.rd _ t2.1 t2.2
    have hd0:0≤Int.tdiv p b.length:=Int.tdiv_nonneg h0 (by omega)
    have hd1:Int.tdiv p b.length≤p:=by
     rw [Int.tdiv_eq_ediv_of_nonneg h0]
     exact Int.ediv_le_self _ h0
    generalize Go.Proofs.YtjamfkpgmkhbnaaGreatDoorW.PrintWords.rd b (Int.tmod p b.length)=x1 at *
    generalize Go.Proofs.YtjamfkpgmkhbnaaGreatDoorW.PrintWords.rd b (Int.tmod (p * 7 + 3) b.length)=x2 at *
    generalize Int.tdiv p b.length=q at *
    simp only [w64 (n:=x1) (by omega) (by omega),w64 (n:=x2) (by omega) (by omega),w64 (n:=q) (by omega) (by omega)]
    simp only [w64 (n:=x1 * 131) (by omega) (by omega),w64 (n:=x2 * 1117) (by omega) (by omega),w64 (n:=p * 29) (by omega) (by omega),w64 (n:=q * 53) (by omega) (by omega)]
    simp only [w64 (n:=x1 * 131 + x2 * 1117) (by omega) (by omega)]
    simp only [w64 (n:=x1 * 131 + x2 * 1117 + p * 29) (by omega) (by omega)]
    simp only [w64 (n:=x1 * 131 + x2 * 1117 + p * 29 + q * 53) (by omega) (by omega)]
    have j3:0≤x1 * 131 + x2 * 1117 + p * 29 + q * 53:=by omega
    have j4:x1 * 131 + x2 * 1117 + p * 29 + q * 53 < 1000000000000000:=by omega
    generalize x1 * 131 + x2 * 1117 + p * 29 + q * 53=s at *
    have hv0:0≤Int.tdiv s 64:=Int.tdiv_nonneg j3 (by omega)
    have hv1:Int.tdiv s 64≤s:=by
     rw [Int.tdiv_eq_ediv_of_nonneg j3]
     exact Int.ediv_le_self _ j3
    rw [w64 (n:=Int.tdiv s 64) (by omega) (by omega)]
    have hx:=WR s (Int.tdiv s 64) j3 (by omega) hv0 (by omega)
    have ht:=DX hx (show 0 < n by omega)
    exact ⟨rfl,ht.1,fun _=>ht.2,fun _=>by omega⟩
theorem gD {β:Type} {b:List Int} (hb:Bytes b) {p n:Int} (h0:0≤p) (h1:p≤1000000000000) {f:Nat→Int × Int→Option β} {R:β→Prop}
  (k:∀ v,0≤v→(1≤n→v < n)→(n < 1→v=0)→EvP (fun m=>f m (v,p + 1)) R):EvP (fun m=>(aG.f m b p n).bind (f m)) R:=
 EvP.bind (aEx b hb p n h0 h1) (fun r hr=>by
  obtain ⟨v,q⟩:=r
  obtain ⟨e,k0,k1,k2⟩:=hr
  obtain rfl:q=p + 1:=e
  exact k v k0 k1 k2)
theorem aCx (b:List Int) (hb:Bytes b) (p:Int) (h0:0≤p) (h1:p≤900000000000):EvP (fun k=>mD.f k b p) (fun r=>r.2=p + 1∧1≤r.1∧r.1≤12):=by
 unfold mD.f
 refine gD hb h0 (by omega) fun v v0 v1 _=>?_
 have:=v1 (by omega)
 dsimp only
 rw [w64 (by omega) (by omega)]
 exact EvP.ret (by dsimp only;omega)
theorem KL (b:List Int) (hb:Bytes b) (p:Int) (h0:0≤p) (h1:p≤900000000000):EvP (fun k=>iC.f k b p) (fun r=>p≤r.2.2.2∧r.2.2.2≤p + 2∧r.2.2.1.length=0):=by
 unfold iC.f
 refine gD hb h0 (by omega) fun v v0 v1 _=>?_
 dsimp only
 refine EvP.ite (fun h=>?_) (fun h=>?_)
 ·refine gD hb (by omega) (by omega) fun v2 w0 w1 _=>?_
  exact EvP.fK rfl (EvP.ret (by simp;omega))
 ·refine EvP.ite (fun h=>?_) (fun h=>?_)
  ·refine EvP.fK rfl (gD hb (by omega) (by omega) fun v2 w0 w1 _=>?_)
   have:=w1 (by omega)
   exact EvP.yes w0 (EvP.yes (by simp;omega) (EvP.fK rfl (EvP.ret (by simp;omega))))
  ·refine gD hb (by omega) (by omega) fun v2 w0 w1 _=>?_
   exact EvP.fK rfl (EvP.ret (by simp;omega))
theorem TR (b:List Int) (hb:Bytes b):∀ (d:Nat) (p:Int),d≤10→0≤p→p + 4 ^ (d + 1)≤800000000000→EvP (fun k=>bH.f k b p (d:Int)) (fun r=>p≤r.2.2.2∧r.2.2.2≤p + 4 ^ (d + 1)∧r.2.2.1.length≤2):=by
 intro d
 have leaf:∀ (d':Int) (q:Int) (p:Int) (m:Nat),0≤q→q≤800000000000→p≤q→q + 2≤p + 4 ^ (m + 1)→EvP (fun k=>bH.j0 k d' true b q) (fun r=>p≤r.2.2.2∧r.2.2.2≤p + 4 ^ (m + 1)∧r.2.2.1.length≤2):=by
  intro d' q p m h0 h1 h2 h3
  refine EvP.step (fun k=>bH.j0.eq_2 (k:=k) ..) (EvP.yes rfl ?_)
  refine EvP.bind (KL b hb q h0 (by omega)) fun r hr=>?_
  exact EvP.ret (by dsimp only;omega)
 induction d with
 |zero=>
  intro p hd h0 h1
  refine EvP.step (fun k=>bH.f.eq_2 (k:=k) ..) (EvP.yes (by omega) ?_)
  exact leaf _ p p 0 h0 (by omega) (by omega) (by omega)
 |succ d ih=>
  intro p hd h0 h1
  have h4:(4:Int) ^ (d + 1 + 1)=4 * 4 ^ (d + 1):=by rw [Int.pow_succ,Int.mul_comm]
  have h5:(4:Int)≤4 ^ (d + 1):=by
   have:0 < (4:Int) ^ d:=Int.pow_pos (by omega)
   rw [Int.pow_succ]
   omega
  refine EvP.step (fun k=>bH.f.eq_2 (k:=k) ..) (EvP.ite (fun h=>?_) (fun h=>?_))
  ·exact leaf _ p p (d + 1) h0 (by omega) (by omega) (by omega)
  ·refine gD hb h0 (by omega) fun v v0 v1 _=>?_
   dsimp only
   cases hv:(v == 0) with
   |true=>exact leaf _ (p + 1) p (d + 1) (by omega) (by omega) (by omega) (by omega)
   |false=>
    refine EvP.step (fun k=>bH.j0.eq_2 (k:=k) ..) (EvP.no (by simp) ?_)
    rw [w64 (by omega) (by omega),show ((d + 1:Nat):Int) - 1=(d:Int) by omega]
    refine EvP.bind (aCx b hb (p + 1) (by omega) (by omega)) fun r hr=>?_
    refine EvP.bind (ih r.2 (by omega) (by omega) (by omega)) fun s hs=>?_
    refine EvP.bind (ih s.2.2.2 (by omega) (by omega) (by omega)) fun u hu=>?_
    exact EvP.fK rfl (EvP.ret (by simp;omega))
theorem pV (b:List Int) (hb:Bytes b) (d:Int) (p:Int) (hd0:0≤d) (hd:d≤5) (h0:0≤p) (h1:p≤700000000000):EvP (fun k=>bH.f k b p d) (fun r=>p≤r.2.2.2∧r.2.2.2≤p + 4096∧r.2.2.1.length≤2):=by
 have hp:(4:Int) ^ (d.toNat + 1)≤4096:=by
  have:d.toNat≤5:=by omega
  have h2:4 ^ (d.toNat + 1)≤4 ^ 6:=Nat.pow_le_pow_right (by omega) (by omega)
  have h3:((4 ^ (d.toNat + 1):Nat):Int)≤4096:=by omega
  rw [Int.natCast_pow] at h3
  exact h3
 have h:=TR b hb d.toNat p (by omega) h0 (by omega)
 rw [Int.toNat_of_nonneg hd0] at h
 exact h.mono fun r hr=>by omega
open Go.Proofs.YtjamfkpgmkhbnaaGreatDoorW.PrintMore
theorem GR {n:Int} (h0:0≤n) (h:n≤99999):gV.f n=some (ba (dec n)):=by
 unfold gV.f
 rw [if_pos h0,if_pos (by omega),aCn h0]
 rfl
theorem tH {v:Int} (h:0≤v∧v < 4):kX.f v=some (ba (yU v)):=by
 unfold kX.f
 rw [if_pos (by omega)]
 rfl
theorem KR {op:Int} (h:1≤op∧op≤12):op=1∨op=2∨op=3∨op=4∨op=5∨op=6∨op=7∨op=8∨op=9∨op=10∨op=11∨op=12:=by omega
theorem wR {op:Int} (h:1≤op∧op≤12):EvP (fun k=>dK.f k op) (·=lev op):=by
  refine Ev.evp (Ev.of (dK.mono _) (k:=10) ?_)
  rcases KR h with h|h|h|h|h|h|h|h|h|h|h|h <;> subst h <;> first|rfl|kernel_rfl
theorem wS {op:Int} (h:1≤op∧op≤12):lV.f op=some (lev op):=by
 rcases KR h with h|h|h|h|h|h|h|h|h|h|h|h <;> subst h <;> first|rfl|kernel_rfl
theorem KC {op:Int} (h:1≤op∧op≤12):pU.f op=some (ba (opB op)):=by
 rcases KR h with h|h|h|h|h|h|h|h|h|h|h|h <;> subst h <;> first|rfl|kernel_rfl
theorem KW {op:Int} (h:1≤op∧op≤12):pY.f op=some (ba (opB op)):=by
 rcases KR h with h|h|h|h|h|h|h|h|h|h|h|h <;> subst h <;> first|rfl|kernel_rfl
theorem EK {op:Int} (h:1≤op∧op≤12):1≤lev op∧lev op≤8:=by
 rcases KR h with h|h|h|h|h|h|h|h|h|h|h|h <;> subst h <;> decide
theorem WI {n:Int} (h0:0≤n) (h:n < 10):strOfNums (([(wrap64 (48 + n)) % 256]:List Int))=ba [UInt8.ofNat (48 + n.toNat)]:=by
 rw [w64 (by omega) (by omega),Int.emod_eq_of_lt (by omega) (by omega)]
 show ba [UInt8.ofNat (48 + n).toNat]=_
 rw [show (48 + n).toNat=48 + n.toNat by omega]
theorem sQ:∀ (m:Nat) (n:Int),n.toNat≤m→0≤n→n≤1000000→EvP (fun k=>dX.f k n) (·=ba (dec n)):=by
  intro m
  induction m with
  |zero=>
    intro n hm h0 h1
    have:n=0:=by omega
    subst this
    refine EvP.step (fun k=>dX.f.eq_2 (k:=k) ..) (EvP.no (by omega) (EvP.no (by omega) (EvP.yes (by omega) (EvP.ret ?_))))
    rw [WI (by omega) (by omega)]
    unfold dec
    rw [Lib.decDigits,dif_pos (by decide)]
  |succ m ih=>
    intro n hm h0 h1
    refine EvP.step (fun k=>dX.f.eq_2 (k:=k) ..) (EvP.no (by omega) (EvP.no (by omega) (EvP.ite (fun h=>EvP.ret ?_) (fun h=>?_))))
    · rw [WI (by omega) (by omega)]
      unfold dec
      rw [Lib.decDigits,dif_pos (by omega)]
    · have hd:Int.tdiv n 10=n / 10:=Int.tdiv_eq_ediv_of_nonneg h0
      have hr:Int.tmod n 10=n % 10:=Int.tmod_eq_emod_of_nonneg h0
      rw [hd,hr,w64 (n:=n / 10) (by omega) (by omega)]
      refine EvP.dO (ih (n / 10) (by omega) (by omega) (by omega)) (EvP.fK rfl ?_)
      rw [WI (n:=n % 10) (by omega) (by omega)]
      have hl:(dec (n / 10)).length≤7:=AA 6 _ (by omega)
      refine EvP.yes (by rw [kL,kL];show _ + 1≤_;omega) (EvP.ret ?_)
      rw [yC]
      unfold dec
      rw [Lib.decDigits.eq_1 n.toNat,dif_neg (by omega),show (n / 10).toNat=n.toNat / 10 by omega,show (n % 10).toNat=n.toNat % 10 by omega]
theorem uQ {v:Int} (h:0≤v∧v < 4):mM.f v=some (ba (yU v)):=by
 unfold mM.f
 rw [w64 (by omega) (by omega),Int.emod_eq_of_lt (by omega) (by omega)]
 rfl
theorem xU (L:List (List UInt8)) (b:Bool) (hl:L.length≤1000000):mO.f (L.map ba) b=some ((tC L b).map ba):=by
 unfold mO.f tC
 cases b with
 |false=>rw [if_neg Bool.false_ne_true,if_neg Bool.false_ne_true]
 |true=>
  rw [if_pos rfl,if_pos rfl]
  simp only [Option.bind_some]
  rw [if_pos (by rw [List.length_map];show 1 + _ < _;omega)]
  rw [if_pos (by rw [List.length_append,List.length_map];show 1 + _ < _;omega)]
  rw [List.map_cons,List.map_append]
  rfl
theorem wT {x:X} (h:x.ok):mI.f (emb x).f0 (emb x).f1 (emb x).f2=some x.lev:=by
 unfold mI.f
 cases x with
 |num n=>rfl
 |var v=>rfl
 |bin op a b=>
  rw [if_neg (by simp [emb])]
  show ((lV.f op).bind fun t=>some t)=_
  rw [wS h.1]
  rfl
theorem rU {x:X} (h:x.ok) (hx:∀ out:List ByteArray,out.length + 5 * x.size≤1000000→EvP (fun k=>bF.f k (emb x).f0 (emb x).f1 (emb x).f2 out) (·=out ++ x.toks.map ba))
    (least:Int) (hl:least≤9) (out:List ByteArray) (ho:out.length + 5 * x.size + 2≤1000000):EvP (fun k=>bB.f k (emb x).f0 (emb x).f1 (emb x).f2 least out) (·=out ++ (tC x.toks (decide (x.lev < least))).map ba):=by
  refine EvP.step (fun k=>bB.f.eq_2 (k:=k) ..) ?_
  have no:decide (x.lev < least)=false→EvP (fun k=>bB.j0 k out true (emb x).f0 (emb x).f1 (emb x).f2) (·=out ++ (tC x.toks (decide (x.lev < least))).map ba):=by
    intro hd
    rw [hd]
    exact EvP.step (fun k=>bB.j0.eq_2 (k:=k) ..) (EvP.yes rfl (EvP.dO (hx out (by omega)) (EvP.ret rfl)))
  cases x with
  |num n=>exact EvP.fK (nU 0) (EvP.no (by decide) (no (decide_eq_false (by show ¬ (9:Int) < least;omega))))
  |var v=>exact EvP.fK (nU 13) (EvP.no (by decide) (no (decide_eq_false (by show ¬ (9:Int) < least;omega))))
  |bin op a b=>
    have h1:=h.1
    refine EvP.fK (nU op) (EvP.yes (by simp [h1.1,h1.2]) (EvP.dO (wR h1) ?_))
    show EvP (fun n=>bB.j0 n out (decide (lev op≥least)) (emb (X.bin op a b)).f0 (emb (X.bin op a b)).f1 (emb (X.bin op a b)).f2) _
    by_cases hc:lev op < least
    · rw [decide_eq_false (show ¬ lev op≥least by omega)]
      rw [show decide ((X.bin op a b).lev < least)=true from decide_eq_true hc]
      refine EvP.step (fun k=>bB.j0.eq_2 (k:=k) ..) (EvP.no Bool.false_ne_true (EvP.yes (by omega) (EvP.dO (hx (out ++ [(⟨#[40]⟩:ByteArray)]) (by rw [List.length_append];show _ + 1 + _≤_;omega)) (EvP.yes ?_ (EvP.ret ?_)))))
      · have:=uU (X.bin op a b)
        rw [List.length_append,List.length_append,List.length_map]
        show _ + 1 + _ < _
        omega
      · unfold tC
        rw [if_pos rfl,List.map_cons,List.map_append]
        simp
        exact ⟨rfl,rfl⟩
    · rw [decide_eq_true (show lev op≥least by omega)]
      exact no (decide_eq_false hc)
theorem kM:∀ x:X,x.ok→∀ out:List ByteArray,out.length + 5 * x.size≤1000000→EvP (fun k=>bF.f k (emb x).f0 (emb x).f1 (emb x).f2 out) (·=out ++ x.toks.map ba)
  | .num n,h,out,ho=>by
    have h:0≤n∧n≤99999:=h
    exact EvP.step (fun k=>bF.f.eq_2 (k:=k) ..) (EvP.yes rfl (EvP.fK (GR h.1 h.2) (EvP.yes (by omega) (EvP.ret rfl))))
  | .var v,h,out,ho=>by
    have h:0≤v∧v < 4:=h
    exact EvP.step (fun k=>bF.f.eq_2 (k:=k) ..) (EvP.no (by show ¬ (13:Int)=0;decide) (EvP.yes rfl (EvP.fK (tH h) (EvP.yes (by omega) (EvP.ret rfl)))))
  | .bin op a b,h,out,ho=>by
    have h1:=h.1
    have hr:=EK h1
    have hs:(X.bin op a b).size=a.size + b.size + 1:=rfl
    have ta:=uU a
    have wa:=vS a.toks (decide (a.lev < lev op))
    show EvP (fun k=>bF.f k op 0 [emb a,emb b] out) _
    refine EvP.step (fun k=>bF.f.eq_2 (k:=k) ..) (EvP.no (by show ¬ op=0;omega) (EvP.no (by show ¬ op=13;omega) (EvP.dO (wR h1) (EvP.yes (by show (0:Int) < 2;omega) ?_))))
    show EvP (fun k=>(bB.f k (emb a).f0 (emb a).f1 (emb a).f2 (lev op) out).bind _) _
    refine EvP.dO (rU h.2.1 (kM a h.2.1) (lev op) (by omega) out (by omega)) (EvP.fK (KC h1) (EvP.yes (by rw [List.length_append,List.length_map];omega) (EvP.yes (by show (1:Int) < 2;omega) ?_)))
    show EvP (fun k=>(bB.f k (emb b).f0 (emb b).f1 (emb b).f2 (wrap64 (lev op + 1)) _).bind _) _
    rw [w64 (by omega) (by omega)]
    refine EvP.dO (rU h.2.2 (kM b h.2.2) (lev op + 1) (by omega) _ (by rw [List.length_append,List.length_append,List.length_map];show _ + _ + 1 + _ + 2≤_;omega)) (EvP.ret ?_)
    rw [X.toks,List.map_append,List.map_cons,show decide (b.lev < lev op + 1)=decide (b.lev≤lev op) from decide_eq_decide.mpr (by omega)]
    simp
theorem nJ:∀ x:X,x.ok→x.size≤1000→EvP (fun k=>bL.f k (emb x).f0 (emb x).f1 (emb x).f2) (·=x.toks.map ba)
  | .num n,h,_=>by
    have h:0≤n∧n≤99999:=h
    exact EvP.step (fun k=>bL.f.eq_2 (k:=k) ..) (EvP.yes rfl (EvP.dO (sQ n.toNat n (by omega) h.1 (by omega)) (EvP.ret rfl)))
  | .var v,h,_=>by
    have h:0≤v∧v < 4:=h
    exact EvP.step (fun k=>bL.f.eq_2 (k:=k) ..) (EvP.no (by show ¬ (13:Int)=0;decide) (EvP.yes rfl (EvP.fK (uQ h) (EvP.ret rfl))))
  | .bin op a b,h,hz=>by
    have h1:=h.1
    have hr:=EK h1
    have hs:(X.bin op a b).size=a.size + b.size + 1:=rfl
    have ta:=uU a
    have tb:=uU b
    have wa:=vS a.toks (decide (a.lev < lev op))
    have wb:=vS b.toks (decide (b.lev≤lev op))
    show EvP (fun k=>bL.f k op 0 [emb a,emb b]) _
    refine EvP.step (fun k=>bL.f.eq_2 (k:=k) ..) (EvP.no (by show ¬ op=0;omega) (EvP.no (by show ¬ op=13;omega) (EvP.fK (wS h1) (EvP.yes (by show (0:Int) < 2;omega) ?_))))
    show EvP (fun k=>(bL.f k (emb a).f0 (emb a).f1 (emb a).f2).bind _) _
    refine EvP.dO (nJ a h.2.1 (by omega)) (EvP.fK (wT h.2.1) (EvP.fK (xU _ _ (by omega)) (EvP.fK (KW h1) (EvP.yes (by rw [List.length_map];omega) (EvP.fK rfl (EvP.yes (by show (1:Int) < 2;omega) ?_))))))
    show EvP (fun k=>(bL.f k (emb b).f0 (emb b).f1 (emb b).f2).bind _) _
    refine EvP.dO (nJ b h.2.2 (by omega)) (EvP.fK (wT h.2.2) (EvP.fK (xU _ _ (by omega)) ?_))
    refine EvP.yes (by rw [List.length_append,List.length_map,List.length_map];show _ + 1 + _ < _;omega) ?_
    first
    |exact EvP.ret (by rw [X.toks,List.map_append,List.map_cons];simp)
    |exact EvP.fK rfl (EvP.ret (by rw [X.toks,List.map_append,List.map_cons];simp))
theorem aAp {op:Int} (h:1≤op∧op≤12):(opB op).length≤2:=by
 rcases KR h with h|h|h|h|h|h|h|h|h|h|h|h <;> subst h <;> decide
theorem GI {l:List (List UInt8)} {b:Bool} {m:Nat} (hm:1≤m) (h:∀ t ∈ l,t.length≤m):∀ t ∈ tC l b,t.length≤m:=by
 unfold tC
 split
 ·intro t ht
  rcases List.mem_cons.1 ht with h1|h1
  ·subst h1
   exact hm
  ·rcases List.mem_append.1 h1 with h2|h2
   ·exact h t h2
   ·rw [List.mem_singleton] at h2
    subst h2
    exact hm
 ·exact h
theorem wE:∀ x:X,x.ok→∀ t ∈ x.toks,t.length≤5
 | .num n,h=>by
  have h:0≤n∧n≤99999:=h
  intro t ht
  rw [X.toks,List.mem_singleton] at ht
  subst ht
  exact vC h.1 h.2
 | .var v,h=>by
  intro t ht
  rw [X.toks,List.mem_singleton] at ht
  subst ht
  exact (by decide:(1:Nat)≤5)
 | .bin op a b,h=>by
  intro t ht
  rw [X.toks] at ht
  rcases List.mem_append.1 ht with h1|h1
  ·exact GI (by decide) (wE a h.2.1) t h1
  ·rcases List.mem_cons.1 h1 with h2|h2
   ·subst h2
    have:=aAp h.1
    omega
   ·exact GI (by decide) (wE b h.2.2) t h2
theorem EI (m:Nat):∀ L:List (List UInt8),(∀ t ∈ L,t.length≤m)→(gZ L).length≤(m + 1) * L.length
 |[],_=>by simp [gZ]
 |[x],h=>by
  have:=h x (by simp)
  simp only [gZ,List.length_singleton]
  omega
 |x :: y :: r,h=>by
  have h1:=h x (by simp)
  have h2:=EI m (y :: r) (fun t ht=>h t (by simp [ht]))
  rw [oI x (by simp),List.length_append,List.length_cons,List.length_cons (a:=x),Nat.mul_add]
  omega
theorem wF (x:X) (hx:x.ok) (hd:x.depth≤5):x.size≤31∧x.toks.length≤151∧(gZ x.toks).length≤906:=by
 have h1:=aAt x hd
 have h2:=uU x
 have h3:=EI 5 x.toks (wE x hx)
 omega
theorem aCt {L:List (List UInt8)} (hne:L≠[]) (h:∀ t ∈ L,Tok t):gZ L≠[]:=by
 cases L with
 |nil=>exact absurd rfl hne
 |cons x r=>
  have hx:=(h x (by simp)).pos
  intro e
  have e2:=congrArg List.length e
  cases r with
  |nil=>
   have e2:x.length=0:=e2
   omega
  |cons y q=>
   rw [oI x (by simp),List.length_append] at e2
   simp at e2
inductive VS (boxes:Int):ST→Prop
 |mk (t:ST) (h:stS boxes (oH t)=true) (hx:t.x.ok) (hd:t.x.depth≤5) (hb:∀ y ∈ t.b,VS boxes y) (he:∀ y ∈ t.e,VS boxes y):VS boxes t
theorem VS.st {boxes:Int} {t:ST} (h:VS boxes t):stS boxes (oH t)=true:=by cases h;assumption
theorem VS.ok {boxes:Int} {t:ST} (h:VS boxes t):t.x.ok:=by cases h;assumption
theorem VS.dp {boxes:Int} {t:ST} (h:VS boxes t):t.x.depth≤5:=by cases h;assumption
theorem VS.b {boxes:Int} {t:ST} (h:VS boxes t):∀ y ∈ t.b,VS boxes y:=by cases h;assumption
theorem VS.e {boxes:Int} {t:ST} (h:VS boxes t):∀ y ∈ t.e,VS boxes y:=by cases h;assumption
theorem EC {l:List ST} {y:ST} (h:y ∈ l):oH y ∈ gK l:=by
 induction l with
 |nil=>cases h
 |cons x r ih=>
  rw [gK]
  rcases List.mem_cons.1 h with rfl|h
  ·exact List.mem_cons_self
  ·exact List.mem_cons_of_mem _ (ih h)
theorem CQ {l:List ST} (h:(gK l).length=0):l=[]:=by
 rw [iV] at h
 exact List.eq_nil_of_length_eq_zero h
theorem aBa {boxes:Int} {t:ST} (h:stS boxes (oH t)=true) (hk:rV (oH t)=false):t.b=[]∧t.e=[]:=by
 have hk':¬ ((oH t).f0=2∨(oH t).f0=3):=by rw [← sH,hk];exact Bool.false_ne_true
 rw [vX] at h hk'
 have:=EP h (fun e=>hk' (.inl e)) (fun e=>hk' (.inr e))
 exact ⟨CQ this.1,CQ this.2⟩
theorem aDs (boxes:Int):∀ (d:Nat) (t:ST),kU boxes d (oH t)=true→AX t→VS boxes t
 |0,t,h,ha=>by
  rw [kU,Bool.and_eq_true,Bool.not_eq_true'] at h
  obtain ⟨e1,e2⟩:=aBa h.1 h.2
  cases ha with
  |mk _ h1 h2 hb he=>exact .mk t h.1 h1 h2 (by rw [e1];intro y hy;cases hy) (by rw [e2];intro y hy;cases hy)
 |d + 1,t,h,ha=>by
  rw [kU,Bool.and_eq_true] at h
  cases ha with
  |mk _ h1 h2 hb he=>
   cases hk:rV (oH t) with
   |false=>
    obtain ⟨e1,e2⟩:=aBa h.1 hk
    exact .mk t h.1 h1 h2 (by rw [e1];intro y hy;cases hy) (by rw [e2];intro y hy;cases hy)
   |true=>
    have h3:=h.2
    rw [hk] at h3
    simp only [Bool.not_true,Bool.false_or,Bool.and_eq_true,List.all_eq_true] at h3
    rw [show (oH t).f4=gK t.b by rw [vX],show (oH t).f5=gK t.e by rw [vX]] at h3
    exact .mk t h.1 h1 h2 (fun y hy=>aDs boxes d y (h3.1 _ (EC hy)) (hb y hy)) (fun y hy=>aDs boxes d y (h3.2 _ (EC hy)) (he y hy))
theorem NS {boxes:Int} {t:ST} (h:VS boxes t):t.kd=1∨t.kd=2∨t.kd=3∨t.kd=4∨t.kd=5∨t.kd=6∨t.kd=7:=by
 have h1:=h.st
 rw [vX] at h1
 unfold stS yT at h1
 dsimp only at h1
 by_cases c1:t.kd=1
 ·omega
 rw [if_neg c1] at h1
 by_cases c2:t.kd=2
 ·omega
 rw [if_neg c2] at h1
 by_cases c3:t.kd=3
 ·omega
 rw [if_neg c3] at h1
 by_cases c4:t.kd=4
 ·omega
 rw [if_neg c4] at h1
 by_cases c5:t.kd=5
 ·omega
 rw [if_neg c5] at h1
 by_cases c7:t.kd=7
 ·omega
 rw [if_neg c7] at h1
 by_cases c6:t.kd=6
 ·omega
 rw [if_neg c6] at h1
 cases h1
theorem xY {boxes:Int} {t:ST} (h:VS boxes t) (hk:t.kd=1∨t.kd=5):0≤t.va∧t.va < 4:=by
 have h1:=h.st
 rw [vX] at h1
 unfold stS yT at h1
 dsimp only at h1
 rcases hk with hk|hk <;> rw [hk] at h1 <;> simp [mZ,GD] at h1 <;> omega
theorem xX {boxes:Int} (hbx:boxes≤3) {t:ST} (h:VS boxes t) (hk:t.kd=4∨t.kd=5):0≤t.bx∧t.bx≤2:=by
 have h1:=h.st
 rw [vX] at h1
 unfold stS yT at h1
 dsimp only at h1
 rcases hk with hk|hk <;> rw [hk] at h1 <;> simp [mZ,xD] at h1 <;> omega
def wIf:List UInt8:=[105,102]
def LA:List UInt8:=[101,108,115,101]
def BZ:List UInt8:=[119,104,105,108,101]
def GH:List UInt8:=[115,101,110,100]
def LB:List UInt8:=[114,101,99,118]
def CB:List UInt8:=[121,105,101,108,100]
def xZ:List UInt8:=[112,114,105,110,116]
def BX:List UInt8:=[98,111,120]
def rW:List UInt8:=[116,97,115,107]
mutual
def sT:ST→List (List UInt8)
 |⟨kd,va,bx,x,b,e⟩=>
  if kd=1 then [yU va,[61]] ++ x.toks ++ [[59]]
  else if kd=2 then wIf :: (x.toks ++ ([123] :: (sTs b ++ [[125]]))) ++ (if e.length=0 then [] else LA :: ([123] :: (sTs e ++ [[125]])))
  else if kd=3 then BZ :: (x.toks ++ ([123] :: (sTs b ++ [[125]])))
  else if kd=4 then [GH,dec bx] ++ x.toks ++ [[59]]
  else if kd=5 then [LB,dec bx,yU va,[59]]
  else if kd=6 then [CB,[59]]
  else xZ :: x.toks ++ [[59]]
def sTs:List ST→List (List UInt8)
 |[]=>[]
 |s :: ss=>sT s ++ sTs ss
end
def nK (l:List ST):List (List UInt8):=[123] :: (sTs l ++ [[125]])
theorem MH (t:ST):sT t=
  if t.kd=1 then [yU t.va,[61]] ++ t.x.toks ++ [[59]]
  else if t.kd=2 then wIf :: (t.x.toks ++ nK t.b) ++ (if t.e.length=0 then [] else LA :: nK t.e)
  else if t.kd=3 then BZ :: (t.x.toks ++ nK t.b)
  else if t.kd=4 then [GH,dec t.bx] ++ t.x.toks ++ [[59]]
  else if t.kd=5 then [LB,dec t.bx,yU t.va,[59]]
  else if t.kd=6 then [CB,[59]]
  else xZ :: t.x.toks ++ [[59]]:=by
 cases t
 rw [sT]
 rfl
theorem aEy {t:ST} (h:t.kd=1):sT t=[yU t.va,[61]] ++ t.x.toks ++ [[59]]:=by rw [MH,if_pos h]
theorem aAr {t:ST} (h:t.kd=2) (h0:t.e.length=0):sT t=wIf :: (t.x.toks ++ nK t.b):=by rw [MH,if_neg (by omega),if_pos h,if_pos h0,List.append_nil]
theorem aAs {t:ST} (h:t.kd=2) (h0:¬ t.e.length=0):sT t=wIf :: (t.x.toks ++ nK t.b) ++ LA :: nK t.e:=by rw [MH,if_neg (by omega),if_pos h,if_neg h0]
theorem aEz {t:ST} (h:t.kd=3):sT t=BZ :: (t.x.toks ++ nK t.b):=by rw [MH,if_neg (by omega),if_neg (by omega),if_pos h]
theorem aFa {t:ST} (h:t.kd=4):sT t=[GH,dec t.bx] ++ t.x.toks ++ [[59]]:=by rw [MH,if_neg (by omega),if_neg (by omega),if_neg (by omega),if_pos h]
theorem aFb {t:ST} (h:t.kd=5):sT t=[LB,dec t.bx,yU t.va,[59]]:=by rw [MH,if_neg (by omega),if_neg (by omega),if_neg (by omega),if_neg (by omega),if_pos h]
theorem aFc {t:ST} (h:t.kd=6):sT t=[CB,[59]]:=by rw [MH,if_neg (by omega),if_neg (by omega),if_neg (by omega),if_neg (by omega),if_neg (by omega),if_pos h]
theorem aFd {t:ST} (h:t.kd=7):sT t=xZ :: t.x.toks ++ [[59]]:=by rw [MH,if_neg (by omega),if_neg (by omega),if_neg (by omega),if_neg (by omega),if_neg (by omega),if_neg (by omega)]
theorem RZ (l:List ST) (j:Nat) (h:j < l.length):sTs (l.drop j)=sT l[j] ++ sTs (l.drop (j + 1)):=by rw [List.drop_eq_getElem_cons h,sTs]
def Good (L:List (List UInt8)):Prop:=∀ t ∈ L,Tok t∧t.length≤5
theorem Good.nil:Good []:=fun _ h=>by cases h
theorem Good.cons {t:List UInt8} {L:List (List UInt8)} (h:Tok t) (hl:t.length≤5) (k:Good L):Good (t :: L):=fun x hx=>by
 rcases List.mem_cons.1 hx with rfl|hx
 ·exact ⟨h,hl⟩
 ·exact k x hx
theorem Good.app {L M:List (List UInt8)} (h:Good L) (k:Good M):Good (L ++ M):=fun x hx=>by
 rcases List.mem_append.1 hx with hx|hx
 ·exact h x hx
 ·exact k x hx
theorem aBj {x:X} (h:x.ok):Good x.toks:=fun t ht=>⟨KY x h t ht,wE x h t ht⟩
theorem rT {c:UInt8} {t:List UInt8} (h:(c :: t).all isL=true):Tok (c :: t):= .let_ c t (List.all_eq_true.1 h)
theorem IZ {l:List ST} (h:Good (sTs l)):Good (nK l):=Good.cons (.sym _ (by decide)) (by decide) (h.app (Good.cons (.sym _ (by decide)) (by decide) .nil))
theorem uD:Good [[59]]:=Good.cons (.sym _ (by decide)) (by decide) .nil
theorem xE (l:List ST) (h:∀ y ∈ l,Good (sT y)):Good (sTs l):=by
 induction l with
 |nil=>rw [sTs];exact .nil
 |cons x r ih=>
  rw [sTs]
  exact (h x (by simp)).app (ih (fun y hy=>h y (by simp [hy])))
theorem aEn {boxes:Int} (hbx:boxes≤3) (t:ST):VS boxes t→Good (sT t):=
 KG (P:=fun t=>VS boxes t→Good (sT t)) (fun t hb he hv=>by
  have gb:=IZ (xE t.b (fun y hy=>hb y hy (hv.b y hy)))
  have ge:=IZ (xE t.e (fun y hy=>he y hy (hv.e y hy)))
  have gx:=aBj hv.ok
  rw [MH]
  rcases NS hv with hk|hk|hk|hk|hk|hk|hk
  ·rw [if_pos hk]
   have h1:=xY hv (.inl hk)
   exact ((Good.cons (KZ h1) (by show (1:Nat)≤5;omega) (Good.cons (.sym _ (by decide)) (by decide) .nil)).app gx).app uD
  ·rw [if_neg (by omega),if_pos hk]
   refine (Good.cons (rT (by decide)) (by decide) (gx.app gb)).app ?_
   split
   ·exact .nil
   ·exact Good.cons (rT (by decide)) (by decide) ge
  ·rw [if_neg (by omega),if_neg (by omega),if_pos hk]
   exact Good.cons (rT (by decide)) (by decide) (gx.app gb)
  ·rw [if_neg (by omega),if_neg (by omega),if_neg (by omega),if_pos hk]
   have h1:=xX hbx hv (.inl hk)
   exact ((Good.cons (rT (by decide)) (by decide) (Good.cons (HY _) (vC h1.1 (by omega)) .nil)).app gx).app uD
  ·rw [if_neg (by omega),if_neg (by omega),if_neg (by omega),if_neg (by omega),if_pos hk]
   have h1:=xX hbx hv (.inr hk)
   have h2:=xY hv (.inr hk)
   exact Good.cons (rT (by decide)) (by decide) (Good.cons (HY _) (vC h1.1 (by omega)) (Good.cons (KZ h2) (by show (1:Nat)≤5;omega) uD))
  ·rw [if_neg (by omega),if_neg (by omega),if_neg (by omega),if_neg (by omega),if_neg (by omega),if_pos hk]
   exact Good.cons (rT (by decide)) (by decide) uD
  ·rw [if_neg (by omega),if_neg (by omega),if_neg (by omega),if_neg (by omega),if_neg (by omega),if_neg (by omega)]
   exact (Good.cons (rT (by decide)) (by decide) gx).app uD) t
theorem aCr {boxes:Int} (hbx:boxes≤3) (l:List ST) (h:∀ t ∈ l,VS boxes t):Good (sTs l):=xE l (fun y hy=>aEn hbx y (h y hy))
theorem BN (l:List ST) (h:∀ y ∈ l,(sT y).length≤170 * cT [y]):(sTs l).length≤170 * cT l:=by
 induction l with
 |nil=>rw [sTs];simp
 |cons x r ih=>
  have h1:=h x (by simp)
  have h2:=ih (fun y hy=>h y (by simp [hy]))
  rw [sD] at h1
  rw [sTs,List.length_append,yF]
  omega
theorem TW {boxes:Int} (t:ST):VS boxes t→(sT t).length≤170 * cT [t]:=
 KG (P:=fun t=>VS boxes t→(sT t).length≤170 * cT [t]) (fun t hb he hv=>by
  have gb:=BN t.b (fun y hy=>hb y hy (hv.b y hy))
  have ge:=BN t.e (fun y hy=>he y hy (hv.e y hy))
  obtain ⟨_,gx,_⟩:=wF t.x hv.ok hv.dp
  have eb:(nK t.b).length=(sTs t.b).length + 2:=by simp [nK]
  have ee:(nK t.e).length=(sTs t.e).length + 2:=by simp [nK]
  rw [MH,sD]
  rcases NS hv with hk|hk|hk|hk|hk|hk|hk
  ·rw [if_pos hk]
   simp only [List.length_append,List.length_cons,List.length_nil]
   omega
  ·rw [if_neg (by omega),if_pos hk,List.length_append,List.length_cons,List.length_append,eb]
   split
   ·simp only [List.length_nil]
    omega
   ·rw [List.length_cons,ee]
    omega
  ·rw [if_neg (by omega),if_neg (by omega),if_pos hk,List.length_cons,List.length_append,eb]
   omega
  ·rw [if_neg (by omega),if_neg (by omega),if_neg (by omega),if_pos hk]
   simp only [List.length_append,List.length_cons,List.length_nil]
   omega
  ·rw [if_neg (by omega),if_neg (by omega),if_neg (by omega),if_neg (by omega),if_pos hk]
   simp only [List.length_cons,List.length_nil]
   omega
  ·rw [if_neg (by omega),if_neg (by omega),if_neg (by omega),if_neg (by omega),if_neg (by omega),if_pos hk]
   simp only [List.length_cons,List.length_nil]
   omega
  ·rw [if_neg (by omega),if_neg (by omega),if_neg (by omega),if_neg (by omega),if_neg (by omega),if_neg (by omega)]
   simp only [List.length_append,List.length_cons,List.length_nil]
   omega) t
theorem IB {boxes:Int} (l:List ST) (h:∀ t ∈ l,VS boxes t):(sTs l).length≤170 * cT l:=BN l (fun y hy=>TW y (h y hy))
def cB:Nat→Nat
 |0=>1
 |d + 1=>4 * cB d + 3
def pB:Nat→Nat
 |0=>5000
 |d + 1=>4 * pB d + 5000
theorem aCl {d:Nat} (h:d≤3):1≤cB d∧cB d≤127:=by
 match d,h with
 |0,_=>decide
 |1,_=>decide
 |2,_=>decide
 |3,_=>decide
theorem aDk {d:Nat} (h:d≤3):5000≤pB d∧pB d≤425000:=by
 match d,h with
 |0,_=>decide
 |1,_=>decide
 |2,_=>decide
 |3,_=>decide
def DS (p:Int) (P C:Nat) (r:Int × Int × Int × Int × Int × (List (S56)) × (List (S58)) × (List (S58)) × Int):Prop:=
 p≤r.2.2.2.2.2.2.2.2∧r.2.2.2.2.2.2.2.2≤p + P∧cSs r.2.2.2.2.2.2.1 + cSs r.2.2.2.2.2.2.2.1≤C
def DL (p:Int) (P C:Nat) (r:List (S58) × Int):Prop:=p≤r.2∧r.2≤p + P∧cSs r.1≤C
theorem EJ (b:List Int) (hb:Bytes b) (p:Int) (h0:0≤p) (h1:p≤600000000000):EvP (fun k=>gJ.f k b p) (DS p 4100 0):=by
 unfold gJ.f
 refine gD hb h0 (by omega) fun v v0 v1 _=>?_
 refine gD hb (by dsimp only;omega) (by dsimp only;omega) fun u u0 u1 _=>?_
 have:=u1 (by omega)
 dsimp only
 rw [w64 (by omega) (by omega)]
 refine EvP.bind (pV b hb _ _ (by omega) (by omega) (by omega) (by omega)) fun r hr=>EvP.ret ?_
 unfold DS
 simp only [sK]
 omega
theorem TU (b:List Int) (hb:Bytes b) (p a1:Int) (h0:0≤p) (h1:p≤500000000000):EvP (fun k=>gL.f k b p a1) (DS p 4200 0):=by
 unfold gL.f
 refine EvP.ite (fun h=>?_) (fun h=>?_)
 ·refine EvP.bind (EJ b hb p h0 (by omega)) fun r hr=>EvP.ret ?_
  unfold DS at hr ⊢
  dsimp only
  omega
 ·refine gD hb h0 (by omega) fun v v0 v1 _=>?_
  refine gD hb (by dsimp only;omega) (by dsimp only;omega) fun u u0 u1 _=>?_
  dsimp only
  refine EvP.ite (fun h=>?_) (fun h=>?_)
  ·refine gD hb (by omega) (by omega) fun w w0 w1 _=>?_
   have:=w1 (by omega)
   dsimp only
   rw [w64 (by omega) (by omega)]
   refine EvP.bind (pV b hb _ _ (by omega) (by omega) (by omega) (by omega)) fun r hr=>EvP.ret ?_
   unfold DS
   simp only [sK]
   omega
  ·refine gD hb (by omega) (by omega) fun w w0 w1 _=>EvP.ret ?_
   unfold DS
   simp only [sK]
   omega
theorem RB (b:List Int) (x1 x2:Int) (x4:Bool) (P C:Nat) (M:Int)
  (stmt:∀ p,0≤p→p≤M→EvP (fun k=>bD.f k b p x1 x2 x4) (DL p P C)) (n:Int):
  ∀ (r j:Nat) (l:List (S58)) (p:Int),(j:Int) + r=n→j + r≤100→cSs l + r * C≤1000000→0≤p→p + ((r * P:Nat):Int)≤M→
   EvP (fun k=>bQ.l0 k x1 x2 n x4 l (j:Int) b p) (DL p (r * P) (cSs l + r * C)):=by
 intro r
 induction r with
 |zero=>
  intro j l p hj hr hl h0 h1
  refine EvP.step (fun k=>bQ.l0.eq_2 (k:=k) ..) (EvP.no (by omega) (EvP.ret ?_))
  unfold DL
  dsimp only
  omega
 |succ r ih=>
  intro j l p hj hr hl h0 h1
  have e1:(r + 1) * P=r * P + P:=Nat.succ_mul r P
  have e2:(r + 1) * C=r * C + C:=Nat.succ_mul r C
  rw [e1] at h1 ⊢
  rw [e2] at hl ⊢
  refine EvP.step (fun k=>bQ.l0.eq_2 (k:=k) ..) (EvP.yes (by omega) ?_)
  refine EvP.bind (stmt p h0 (by omega)) fun s hs=>?_
  obtain ⟨s0,s1,s2⟩:=hs
  have l1:=gG l
  have l2:=gG s.1
  have ha:=rZ l s.1
  refine EvP.yes (by omega) ?_
  rw [w64 (by omega) (by omega)]
  refine (ih (j + 1) (l ++ s.1) s.2 (by omega) (by omega) (by omega) (by omega) (by omega)).mono fun a ha=>?_
  unfold DL at ha ⊢
  omega
theorem vD (b:List Int) (x1 x2:Int) (x4:Bool) (P C:Nat) (M:Int)
  (stmt:∀ p,0≤p→p≤M→EvP (fun k=>bD.f k b p x1 x2 x4) (DL p P C)) (n:Int) (m:Nat) (j3:0≤n) (hn:n≤m) (hm:m≤100) (hC:m * C≤1000000) (p:Int) (h0:0≤p) (h1:p + ((m * P:Nat):Int)≤M):
  EvP (fun k=>bQ.f k b p x1 x2 n x4) (DL p (m * P) (m * C)):=by
 have hnm:n.toNat≤m:=by omega
 have e1:n.toNat * P≤m * P:=Nat.mul_le_mul_right P hnm
 have e2:n.toNat * C≤m * C:=Nat.mul_le_mul_right C hnm
 refine EvP.step (fun k=>bQ.f.eq_2 (k:=k) ..) ?_
 refine (RB b x1 x2 x4 P C M stmt n n.toNat 0 [] p (by omega) (by omega) (by rw [sK];omega) h0 (by omega)).mono fun a ha=>?_
 unfold DL at ha ⊢
 rw [sK] at ha
 omega
theorem aCy (b:List Int) (hb:Bytes b) (x1 a2:Int) (x4:Bool) (P C:Nat) (hP:P≤1000000) (hC:C≤1000) (M:Int) (hM:M≤300000000000)
  (stmt:∀ p,0≤p→p≤M→EvP (fun k=>bD.f k b p x1 (wrap64 (a2 - 1)) x4) (DL p P C)) (p:Int) (h0:0≤p) (h1:p + 10000000≤M):
  EvP (fun k=>dV.f k b p x1 a2 x4) (DS p (4 * P + 4200) (4 * C)):=by
 refine EvP.step (fun k=>dV.f.eq_2 (k:=k) ..) ?_
 refine gD hb h0 (by omega) fun v v0 v1 _=>?_
 have:=v1 (by omega)
 dsimp only
 rw [w64 (n:=1 + v) (by omega) (by omega)]
 refine EvP.bind (pV b hb _ _ (by omega) (by omega) (by omega) (by omega)) fun r hr=>?_
 refine gD hb (by omega) (by omega) fun u u0 u1 _=>?_
 have:=u1 (by omega)
 refine EvP.bind (vD b x1 _ x4 P C M stmt u 2 u0 (by omega) (by omega) (by omega) _ (by dsimp only;omega) (by dsimp only;omega)) fun s hs=>?_
 obtain ⟨s0,s1,s2⟩:=hs
 dsimp only at s0 s1
 refine gD hb (by omega) (by omega) fun w w0 w1 _=>?_
 have:=w1 (by omega)
 refine EvP.bind (vD b x1 _ x4 P C M stmt w 2 w0 (by omega) (by omega) (by omega) _ (by dsimp only;omega) (by dsimp only;omega)) fun t ht=>EvP.ret ?_
 obtain ⟨t0,t1,t2⟩:=ht
 dsimp only at t0 t1
 unfold DS
 dsimp only
 omega
theorem TS (b:List Int) (hb:Bytes b) (x1 a2:Int) (P C:Nat) (hP:P≤1000000) (hC:C≤1000) (M:Int) (hM:M≤300000000000)
  (stmt:∀ p,0≤p→p≤M→EvP (fun k=>bD.f k b p x1 (wrap64 (a2 - 1)) false) (DL p P C)) (p:Int) (h0:0≤p) (h1:p + 10000000≤M):
  EvP (fun k=>eZ.f k b p x1 a2) (DL p (2 * P + 10) (2 * C + 3)):=by
 refine EvP.step (fun k=>eZ.f.eq_2 (k:=k) ..) ?_
 refine gD hb h0 (by omega) fun v v0 v1 _=>?_
 have:=v1 (by omega)
 refine EvP.bind (vD b x1 _ false P C M stmt v 2 v0 (by omega) (by omega) (by omega) _ (by dsimp only;omega) (by dsimp only;omega)) fun s hs=>?_
 obtain ⟨s0,s1,s2⟩:=hs
 dsimp only at s0 s1
 refine EvP.fK rfl (EvP.fK rfl (EvP.fK rfl (EvP.fK rfl ?_)))
 refine gD hb (by omega) (by omega) fun u u0 u1 _=>?_
 refine EvP.fK rfl (EvP.fK rfl (EvP.fK rfl ?_))
 have l1:=gG s.1
 refine EvP.yes (by simp;omega) (EvP.fK rfl (EvP.ret ?_))
 unfold DL
 simp only [cSs,cS,rZ]
 omega
theorem KM (b:List Int) (hb:Bytes b) (x1 j3:Int) (x:Bool) (p:Int) (h0:0≤p) (h1:p≤300000000000):
  EvP (fun k=>bD.j2 k x1 j3 x b p) (DL p 4300 1):=by
 refine EvP.step (fun k=>bD.j2.eq_2 (k:=k) ..) (EvP.ite (fun h=>?_) (fun h=>EvP.ite (fun h=>EvP.ret ?_) (fun h=>?_)))
 ·refine EvP.bind (TU b hb p x1 h0 (by omega)) fun r hr=>EvP.ret ?_
  unfold DS at hr
  unfold DL
  simp only [cSs,cS]
  omega
 ·unfold DL
  simp only [cSs,cS]
  omega
 ·refine gD hb h0 (by omega) fun u u0 u1 _=>?_
  have:=u1 (by omega)
  dsimp only
  rw [w64 (by omega) (by omega)]
  refine EvP.bind (pV b hb _ _ (by omega) (by omega) (by omega) (by omega)) fun r hr=>EvP.ret ?_
  unfold DL
  simp only [cSs,cS]
  omega
theorem TT (b:List Int) (hb:Bytes b):∀ (d:Nat) (a2:Int) (x1:Int) (x3:Bool) (p:Int),d≤3→a2=d→0≤p→p + (d:Int) * 20000000≤200000000000→EvP (fun k=>bD.f k b p x1 a2 x3) (DL p (pB d) (cB d)):=by
 intro d
 induction d with
 |zero=>
  intro a2 x1 x3 p hd ha h0 h1
  have j2:∀ (q j5:Int) (x:Bool),p≤q→q≤p + 1→EvP (fun k=>bD.j2 k x1 j5 x b q) (DL p (pB 0) (cB 0)):=fun q j5 x hq hq2=>(KM b hb x1 j5 x q (by omega) (by omega)).mono fun r hr=>by
   unfold DL at hr ⊢
   simp only [pB,cB]
   omega
  have pr:∀ q:Int,p≤q→q≤p + 1→EvP (fun k=>(aG.f k b q 3).bind fun j4=>((bH.f k b j4.2 (wrap64 (1 + j4.1))).bind fun j3=>(some ((([(⟨7,0,0,(⟨j3.1,j3.2.1,j3.2.2.1⟩:S56),([]:List (S58)),([]:List (S58))⟩:S58)]:List (S58))),j3.2.2.2)))) (DL p (pB 0) (cB 0)):=by
   intro q hq hq2
   refine gD hb (by omega) (by omega) fun u u0 u1 _=>?_
   have:=u1 (by omega)
   dsimp only
   rw [w64 (by omega) (by omega)]
   refine EvP.bind (pV b hb _ _ (by omega) (by omega) (by omega) (by omega)) fun r hr=>EvP.ret ?_
   unfold DL
   simp only [cSs,cS,pB,cB]
   omega
  have j1:∀ q:Int,p≤q→q≤p + 1→EvP (fun k=>bD.j1 k x1 a2 false b q) (DL p (pB 0) (cB 0)):=fun q hq hq2=>
   EvP.step (fun k=>bD.j1.eq_2 (k:=k) ..) (EvP.no Bool.false_ne_true (pr q hq hq2))
  have j0:∀ (q j5:Int) (x:Bool),p≤q→q≤p + 1→EvP (fun k=>bD.j0 k x1 a2 x3 j5 x b q) (DL p (pB 0) (cB 0)):=by
   intro q j5 x hq hq2
   refine EvP.step (fun k=>bD.j0.eq_2 (k:=k) ..) (EvP.ite (fun h=>?_) (fun h=>EvP.ite (fun h=>EvP.no (by omega) (pr q hq hq2)) (fun h=>EvP.ite (fun h=>EvP.no (by omega) (j1 q hq hq2)) (fun h=>EvP.ite (fun h=>j2 q _ _ hq hq2) (fun h=>EvP.ite (fun h=>j2 q _ _ hq hq2) (fun h=>j2 q _ _ hq hq2))))))
   refine EvP.bind (EJ b hb q (by omega) (by omega)) fun r hr=>EvP.ret ?_
   unfold DS at hr
   unfold DL
   simp only [cSs,cS,pB,cB]
   omega
  refine EvP.step (fun k=>bD.f.eq_2 (k:=k) ..) (gD hb h0 (by omega) fun u u0 u1 _=>?_)
  dsimp only
  exact EvP.ite (fun h=>j0 _ _ _ (by omega) (by omega)) (fun h=>j0 _ _ _ (by omega) (by omega))
 |succ d ih=>
  intro a2 x1 x3 p hd ha h0 h1
  have hc:=aCl (show d≤3 by omega)
  have hp:=aDk (show d≤3 by omega)
  have ec:cB (d + 1)=4 * cB d + 3:=rfl
  have ep:pB (d + 1)=4 * pB d + 5000:=rfl
  have ew:wrap64 (a2 - 1)=(d:Int):=by
   rw [w64 (by omega) (by omega)]
   omega
  have stmt:∀ (x4:Bool) (p:Int),0≤p→p≤200000000000 - (d:Int) * 20000000→EvP (fun k=>bD.f k b p x1 (wrap64 (a2 - 1)) x4) (DL p (pB d) (cB d)):=fun x4 p h0 h1=>ih _ x1 x4 p (by omega) ew h0 (by omega)
  have j2:∀ (q j5:Int) (x:Bool),p≤q→q≤p + 1→EvP (fun k=>bD.j2 k x1 j5 x b q) (DL p (pB (d + 1)) (cB (d + 1))):=fun q j5 x hq hq2=>(KM b hb x1 j5 x q (by omega) (by omega)).mono fun r hr=>by
   unfold DL at hr ⊢
   omega
  have pr:∀ q:Int,p≤q→q≤p + 1→EvP (fun k=>(aG.f k b q 3).bind fun j4=>((bH.f k b j4.2 (wrap64 (1 + j4.1))).bind fun j3=>(some ((([(⟨7,0,0,(⟨j3.1,j3.2.1,j3.2.2.1⟩:S56),([]:List (S58)),([]:List (S58))⟩:S58)]:List (S58))),j3.2.2.2)))) (DL p (pB (d + 1)) (cB (d + 1))):=by
   intro q hq hq2
   refine gD hb (by omega) (by omega) fun u u0 u1 _=>?_
   have:=u1 (by omega)
   dsimp only
   rw [w64 (by omega) (by omega)]
   refine EvP.bind (pV b hb _ _ (by omega) (by omega) (by omega) (by omega)) fun r hr=>EvP.ret ?_
   unfold DL
   simp only [cSs,cS]
   omega
  have j1:∀ (q:Int) (x:Bool),p≤q→q≤p + 1→EvP (fun k=>bD.j1 k x1 a2 x b q) (DL p (pB (d + 1)) (cB (d + 1))):=by
   intro q x hq hq2
   refine EvP.step (fun k=>bD.j1.eq_2 (k:=k) ..) (EvP.ite (fun h=>?_) (fun h=>pr q hq hq2))
   refine EvP.bind (TS b hb x1 a2 (pB d) (cB d) (by omega) (by omega) (200000000000 - (d:Int) * 20000000) (by omega) (stmt false) q (by omega) (by omega)) fun r hr=>EvP.ret ?_
   unfold DL at hr ⊢
   dsimp only
   omega
  have j0:∀ (q j5:Int) (x:Bool),p≤q→q≤p + 1→EvP (fun k=>bD.j0 k x1 a2 x3 j5 x b q) (DL p (pB (d + 1)) (cB (d + 1))):=by
   intro q j5 x hq hq2
   refine EvP.step (fun k=>bD.j0.eq_2 (k:=k) ..) (EvP.ite (fun h=>?_) (fun h=>EvP.ite (fun h=>EvP.ite (fun h=>?_) (fun h=>pr q hq hq2)) (fun h=>EvP.ite (fun h=>EvP.ite (fun h=>j1 q _ hq hq2) (fun h=>j1 q _ hq hq2)) (fun h=>EvP.ite (fun h=>j2 q _ _ hq hq2) (fun h=>EvP.ite (fun h=>j2 q _ _ hq hq2) (fun h=>j2 q _ _ hq hq2))))))
   ·refine EvP.bind (EJ b hb q (by omega) (by omega)) fun r hr=>EvP.ret ?_
    unfold DS at hr
    unfold DL
    simp only [cSs,cS]
    omega
   ·refine EvP.bind (aCy b hb x1 a2 x3 (pB d) (cB d) (by omega) (by omega) (200000000000 - (d:Int) * 20000000) (by omega) (stmt x3) q (by omega) (by omega)) fun r hr=>EvP.ret ?_
    unfold DS at hr
    unfold DL
    simp only [cSs,cS]
    omega
  refine EvP.step (fun k=>bD.f.eq_2 (k:=k) ..) (gD hb h0 (by omega) fun u u0 u1 _=>?_)
  dsimp only
  exact EvP.ite (fun h=>j0 _ _ _ (by omega) (by omega)) (fun h=>j0 _ _ _ (by omega) (by omega))
theorem FL (b:List Int) (hb:Bytes b) (d:Nat) (hd:d≤3) (a2 x1:Int) (ha:a2=d) (x4:Bool) (n:Int) (m:Nat) (j3:0≤n) (hn:n≤m) (hm:m≤6) (p:Int) (h0:0≤p) (h1:p≤190000000000):
  EvP (fun k=>bQ.f k b p x1 a2 n x4) (DL p (m * pB d) (m * cB d)):=by
 have hc:=aCl hd
 have hp:=aDk hd
 have e1:m * pB d≤6 * pB d:=Nat.mul_le_mul_right _ hm
 have e2:m * cB d≤6 * cB d:=Nat.mul_le_mul_right _ hm
 exact vD b x1 a2 x4 (pB d) (cB d) (200000000000 - (d:Int) * 20000000) (fun p h0 h1=>TT b hb d a2 x1 x4 p hd ha h0 (by omega)) n m j3 hn (by omega) (by omega) p h0 (by omega)
theorem RH (b:List Int) (p:Int):∀ (m:Nat) (l:List (S58)),l.length=m→cSs l≤1000000→EvP (fun k=>dY.l0 k l b p) (fun r=>r.2=p∧cSs r.1≤16):=by
 intro m
 induction m with
 |zero=>
  intro l hm hl
  obtain rfl:=List.eq_nil_of_length_eq_zero hm
  refine EvP.step (fun k=>dY.l0.eq_2 (k:=k) ..) (EvP.dO (sI _ _ hl (by omega)) (EvP.no ?_ (EvP.ret ⟨rfl,?_⟩)))
  ·rw [sK]
   omega
  ·rw [sK]
   omega
 |succ m ih=>
  intro l hm hl
  refine EvP.step (fun k=>dY.l0.eq_2 (k:=k) ..) (EvP.dO (sI _ _ hl (by omega)) (EvP.ite (fun h=>?_) (fun h=>EvP.ret ⟨rfl,by dsimp only;omega⟩)))
  have hlen:=gG l
  rw [w64 (by omega) (by omega),show (((l.length:Int) - 1)).toNat=m by omega]
  have ht:=LU l m
  exact EvP.yes (by omega) (EvP.yes (by omega) (ih _ (by rw [List.length_take];omega) (by omega)))
theorem RG (b:List Int) (hb:Bytes b) (p a1:Int) (h0:0≤p) (h1:p≤180000000000):EvP (fun k=>dY.f k b p a1) (DL p 3000000 16):=by
 unfold dY.f
 refine gD hb h0 (by omega) fun v v0 v1 _=>?_
 have:=v1 (by omega)
 dsimp only
 rw [w64 (by omega) (by omega)]
 have hc:=aCl (show 3≤3 by omega)
 have hp:=aDk (show 3≤3 by omega)
 refine EvP.bind (FL b hb 3 (by omega) 3 a1 rfl true (1 + v) 6 (by omega) (by omega) (by omega) _ (by omega) (by omega)) fun r hr=>?_
 obtain ⟨r0,r1,r2⟩:=hr
 refine (RH b r.2 _ r.1 rfl (by omega)).mono fun s hs=>?_
 unfold DL
 omega
theorem LZ (b:List Int) (hb:Bytes b) (p:Int) (h0:0≤p) (h1:p≤180000000000):EvP (fun k=>gU.f k b p) (DS p 100000 20):=by
 unfold gU.f
 refine EvP.fK rfl (gD hb h0 (by omega) fun v v0 v1 _=>?_)
 have:=v1 (by omega)
 dsimp only
 refine EvP.bind (FL b hb 1 (by omega) 1 0 rfl false v 2 (by omega) (by omega) (by omega) _ (by omega) (by omega)) fun r hr=>EvP.ret ?_
 obtain ⟨r0,r1,r2⟩:=hr
 have e1:cB 1=7:=rfl
 have e2:pB 1=25000:=rfl
 rw [e2] at r1
 rw [e1] at r2
 unfold DS
 simp only [sK]
 omega
set_option linter.unusedSimpArgs false
theorem yG (l:List ST):l.length≤cT l:=by
 have h:=gG (gK l)
 rw [iV] at h
 exact h
theorem aCm (l:List ST) (j:Nat):cT (l.take j) + cT (l.drop j)=cT l:=by
 rw [← yE,List.take_append_drop]
theorem aAq (l:List ST) (j:Nat) (h:j < l.length):aJ (gK l) (j:Int)=oH l[j]:=by
 rw [DI _ j (by rw [iV];exact h),NA l j h]
def SI (l:List ST):Prop:=∀ out:List ByteArray,out.length + 170 * cT l + 10≤1000000→EvP (fun k=>aZ.f k (gK l) out) (·=out ++ (nK l).map ba)
theorem BJ {boxes:Int} (hbx:boxes≤3) (t:ST) (hv:VS boxes t) (hb:SI t.b) (he:SI t.e) (out:List ByteArray) (ho:out.length + 170 * cT [t]≤1000000):
    EvP (fun k=>aQ.f k (oH t).f0 (oH t).f1 (oH t).f2 (oH t).f3.f0 (oH t).f3.f1 (oH t).f3.f2 (oH t).f4 (oH t).f5 out) (·=out ++ (sT t).map ba):=by
  obtain ⟨zx,tx,_⟩:=wF t.x hv.ok hv.dp
  have hs:=hv.ok
  rw [sD] at ho
  rw [vX]
  show EvP (fun k=>aQ.f k t.kd t.va t.bx (emb t.x).f0 (emb t.x).f1 (emb t.x).f2 (gK t.b) (gK t.e) out) _
  refine EvP.step (fun k=>aQ.f.eq_2 (k:=k) ..) ?_
  rcases NS hv with hk|hk|hk|hk|hk|hk|hk
  · have h1:=xY hv (.inl hk)
    rw [aEy hk]
    refine EvP.yes hk (EvP.fK (tH h1) (EvP.fK rfl (EvP.yes (by show _ + 2 < _;omega) (EvP.dO (kM t.x hs _ (by rw [List.length_append];show _ + 2 + _≤_;omega)) (EvP.yes ?_ (EvP.ret ?_))))))
    · rw [List.length_append,List.length_append,List.length_map]
      show _ + 2 + _ < _
      omega
    · simp
      first|done|rfl|exact ⟨rfl,rfl⟩|exact ⟨rfl,rfl,rfl⟩
  ·
    refine EvP.no (by omega) (EvP.yes hk (EvP.yes (by omega) (EvP.dO (kM t.x hs _ (by rw [List.length_append];show _ + 1 + _≤_;omega)) (EvP.dO (hb _ ?_) ?_))))
    · rw [List.length_append,List.length_append,List.length_map]
      show _ + 1 + _ + _ + _≤_
      omega
    · refine EvP.ite (fun h0=>?_) (fun h0=>?_)
      · rw [iV] at h0
        rw [aAs hk (by omega)]
        have hlb:=IB t.b hv.b
        have eb:(nK t.b).length=(sTs t.b).length + 2:=by simp [nK]
        refine EvP.yes ?_ (EvP.dO (he _ ?_) (EvP.ret ?_))
        · rw [List.length_append,List.length_append,List.length_append,List.length_map,List.length_map,eb]
          show _ + 1 + _ + _ < _
          omega
        · rw [List.length_append,List.length_append,List.length_append,List.length_append,List.length_map,List.length_map,eb]
          show _ + 1 + _ + _ + 1 + _ + _≤_
          omega
        · simp
          first|done|rfl|exact ⟨rfl,rfl⟩|exact ⟨rfl,rfl,rfl⟩
      · rw [iV] at h0
        rw [aAr hk (by omega)]
        refine EvP.ret ?_
        simp
        first|done|rfl|exact ⟨rfl,rfl⟩|exact ⟨rfl,rfl,rfl⟩
  · rw [aEz hk]
    refine EvP.no (by omega) (EvP.no (by omega) (EvP.yes hk (EvP.yes (by omega) (EvP.dO (kM t.x hs _ (by rw [List.length_append];show _ + 1 + _≤_;omega)) (EvP.dO (hb _ ?_) (EvP.ret ?_))))))
    · rw [List.length_append,List.length_append,List.length_map]
      show _ + 1 + _ + _ + _≤_
      omega
    · simp
      first|done|rfl|exact ⟨rfl,rfl⟩|exact ⟨rfl,rfl,rfl⟩
  · have h1:=xX hbx hv (.inl hk)
    rw [aFa hk]
    refine EvP.no (by omega) (EvP.no (by omega) (EvP.no (by omega) (EvP.yes hk (EvP.fK (GR h1.1 (by omega)) (EvP.fK rfl (EvP.yes (by show _ + 2 < _;omega) (EvP.dO (kM t.x hs _ (by rw [List.length_append];show _ + 2 + _≤_;omega)) (EvP.yes ?_ (EvP.ret ?_)))))))))
    · rw [List.length_append,List.length_append,List.length_map]
      show _ + 2 + _ < _
      omega
    · simp
      first|done|rfl|exact ⟨rfl,rfl⟩|exact ⟨rfl,rfl,rfl⟩
  · have h1:=xX hbx hv (.inr hk)
    have h2:=xY hv (.inr hk)
    rw [aFb hk]
    refine EvP.no (by omega) (EvP.no (by omega) (EvP.no (by omega) (EvP.no (by omega) (EvP.yes hk (EvP.fK (GR h1.1 (by omega)) (EvP.fK (tH h2) (EvP.fK rfl (EvP.yes (by show _ + 3 < _;omega) (EvP.fK rfl (EvP.yes ?_ (EvP.ret ?_)))))))))))
    · rw [List.length_append]
      show _ + 3 < _
      omega
    · simp
      first|done|rfl|exact ⟨rfl,rfl⟩|exact ⟨rfl,rfl,rfl⟩
  · rw [aFc hk]
    refine EvP.no (by omega) (EvP.no (by omega) (EvP.no (by omega) (EvP.no (by omega) (EvP.no (by omega) (EvP.yes hk (EvP.yes (by omega) (EvP.fK rfl (EvP.yes ?_ (EvP.ret ?_)))))))))
    · rw [List.length_append]
      show _ + 1 < _
      omega
    · simp
      first|done|rfl|exact ⟨rfl,rfl⟩|exact ⟨rfl,rfl,rfl⟩
  · rw [aFd hk]
    refine EvP.no (by omega) (EvP.no (by omega) (EvP.no (by omega) (EvP.no (by omega) (EvP.no (by omega) (EvP.no (by omega) (EvP.yes hk (EvP.yes (by omega) (EvP.dO (kM t.x hs _ (by rw [List.length_append];show _ + 1 + _≤_;omega)) (EvP.yes ?_ (EvP.ret ?_))))))))))
    · rw [List.length_append,List.length_append,List.length_map]
      show _ + 1 + _ < _
      omega
    · simp
      first|done|rfl|exact ⟨rfl,rfl⟩|exact ⟨rfl,rfl,rfl⟩
theorem uJ {boxes:Int} (hbx:boxes≤3) (l:List ST) (hc:cT l≤5000) (hv:∀ t ∈ l,VS boxes t) (hs:∀ t ∈ l,SI t.b∧SI t.e):∀ (d j:Nat) (out:List ByteArray),j + d=l.length→out.length + 170 * cT (l.drop j) + 5≤1000000→
    EvP (fun k=>aZ.l0 k out (gK l) ((gK l).length:Int) (j:Int)) (·=out ++ (sTs (l.drop j) ++ [[125]]).map ba)
  |0,j,out,h,ho=>by
    refine EvP.step (fun k=>aZ.l0.eq_2 (k:=k) ..) (EvP.no (by rw [iV];omega) (EvP.yes (by omega) (EvP.ret ?_)))
    rw [List.drop_eq_nil_of_le (by omega),sTs]
    rfl
  |d + 1,j,out,h,ho=>by
    have hj:j < l.length:=by omega
    have hcl:=yG l
    have hcd:cT (l.drop j)=cT [l[j]] + cT (l.drop (j + 1)):=by rw [List.drop_eq_getElem_cons hj,yF,sD]
    have hm:l[j] ∈ l:=by simp
    have hlen:=TW l[j] (hv _ hm)
    refine EvP.step (fun k=>aZ.l0.eq_2 (k:=k) ..) (EvP.yes (by rw [iV];omega) (EvP.yes (by omega) (EvP.yes (by rw [iV];omega) ?_)))
    rw [aAq l j hj]
    refine EvP.dO (BJ hbx l[j] (hv _ hm) (hs _ hm).1 (hs _ hm).2 out (by omega)) ?_
    rw [w64 (by omega) (by omega),show (j:Int) + 1=((j + 1:Nat):Int) by omega]
    refine (uJ hbx l hc hv hs d (j + 1) _ (by omega) (by rw [List.length_append,List.length_map];omega)).mono (fun a ha=>?_)
    rw [ha,RZ l j hj]
    simp
theorem yQ {boxes:Int} (hbx:boxes≤3):∀ (c:Nat) (l:List ST),cT l≤c→c≤5000→(∀ t ∈ l,VS boxes t)→SI l:=by
 intro c
 induction c with
 |zero=>
  intro l hc h5 hv out ho
  have hl:l=[]:=by
   have:=yG l
   exact List.eq_nil_of_length_eq_zero (by omega)
  subst hl
  refine EvP.step (fun k=>aZ.f.eq_2 (k:=k) ..) (EvP.yes (by omega) ?_)
  refine (uJ hbx [] (by omega) hv (fun t h=>by cases h) 0 0 _ rfl (by rw [List.length_append];show _ + 1 + _ + _≤_;simp only [List.drop_nil];omega)).mono (fun a ha=>?_)
  rw [ha]
  unfold nK
  simp
  first|done|rfl|exact ⟨rfl,rfl⟩|exact ⟨rfl,rfl,rfl⟩
 |succ c ih=>
  intro l hc h5 hv out ho
  have hs:∀ t ∈ l,SI t.b∧SI t.e:=by
   intro t ht
   have h1:cT [t]≤cT l:=by
    obtain ⟨s,r,rfl⟩:=List.append_of_mem ht
    rw [yE,yF t r,sD]
    omega
   rw [sD] at h1
   exact ⟨ih t.b (by omega) (by omega) (hv t ht).b,ih t.e (by omega) (by omega) (hv t ht).e⟩
  refine EvP.step (fun k=>aZ.f.eq_2 (k:=k) ..) (EvP.yes (by omega) ?_)
  refine (uJ hbx l (by omega) hv hs l.length 0 _ (by omega) (by rw [List.length_append];show _ + 1 + _ + _≤_;rw [List.drop_zero];omega)).mono (fun a ha=>?_)
  rw [ha,List.drop_zero]
  unfold nK
  simp
  first|done|rfl|exact ⟨rfl,rfl⟩|exact ⟨rfl,rfl,rfl⟩
theorem BM (L:List (List UInt8)) (hL:L.length≤10) (x:X) (hx:x.ok) (hd:x.depth≤5):EvP (fun k=>gB.f k (L.map ba) (emb x).f0 (emb x).f1 (emb x).f2) (·=(L ++ x.toks ++ [[59]]).map ba):=by
  obtain ⟨zx,tx,_⟩:=wF x hx hd
  unfold gB.f
  refine EvP.dO (nJ x hx (by omega)) (EvP.yes (by rw [List.length_map,List.length_map];omega) ?_)
  first
  | (refine EvP.fK rfl (EvP.yes ?_ (EvP.ret ?_))
     · rw [List.length_append,List.length_map,List.length_map]
       omega
     · simp
       rfl)
  | (refine EvP.yes ?_ (EvP.ret ?_)
     · rw [List.length_append,List.length_map,List.length_map]
       omega
     · simp
       rfl)
def SK (l:List ST):Prop:=EvP (fun k=>bK.f k (gK l)) (·=(nK l).map ba)
theorem GN {boxes:Int} (hbx:boxes≤3) (t:ST) (hv:VS boxes t) (hc:cT [t]≤5000) (hb:SK t.b) (he:SK t.e):
    EvP (fun k=>bO.f k (oH t).f0 (oH t).f1 (oH t).f2 (oH t).f3.f0 (oH t).f3.f1 (oH t).f3.f2 (oH t).f4 (oH t).f5) (·=(sT t).map ba):=by
  obtain ⟨zx,tx,_⟩:=wF t.x hv.ok hv.dp
  have hs:=hv.ok
  have hd:=hv.dp
  have lb:=IB t.b hv.b
  have le:=IB t.e hv.e
  have eb:(nK t.b).length=(sTs t.b).length + 2:=by simp [nK]
  have ee:(nK t.e).length=(sTs t.e).length + 2:=by simp [nK]
  rw [sD] at hc
  rw [vX]
  show EvP (fun k=>bO.f k t.kd t.va t.bx (emb t.x).f0 (emb t.x).f1 (emb t.x).f2 (gK t.b) (gK t.e)) _
  refine EvP.step (fun k=>bO.f.eq_2 (k:=k) ..) ?_
  rcases NS hv with hk|hk|hk|hk|hk|hk|hk
  · have h1:=xY hv (.inl hk)
    rw [aEy hk]
    exact EvP.yes hk (EvP.fK (uQ h1) (EvP.dO (BM [yU t.va,[61]] (by simp) t.x hs hd) (EvP.ret rfl)))
  · refine EvP.no (by omega) (EvP.no (by omega) (EvP.no (by omega) (EvP.no (by omega) (EvP.no (by omega) (EvP.no (by omega) (EvP.fK rfl (EvP.dO (nJ t.x hs (by omega)) (EvP.yes (by rw [List.length_map];show 1 + _ < _;omega) (EvP.fK rfl (EvP.dO hb (EvP.yes ?_ (EvP.fK rfl ?_))))))))))))
    · rw [List.length_append,List.length_map,List.length_map,eb]
      show 1 + _ + _ < _
      omega
    · refine EvP.ite (fun h0=>?_) (fun h0=>?_)
      · rw [iV] at h0
        rw [aAr hk (by omega)]
        refine EvP.ret ?_
        simp
        first|done|rfl|exact ⟨rfl,rfl⟩
      · rw [iV] at h0
        rw [aAs hk (by omega)]
        refine EvP.yes ?_ (EvP.fK rfl (EvP.dO he (EvP.yes ?_ (EvP.ret ?_))))
        · rw [List.length_append,List.length_append,List.length_map,List.length_map,eb]
          show 1 + _ + _ < _
          omega
        · rw [List.length_append,List.length_append,List.length_append,List.length_map,List.length_map,List.length_map,eb,ee]
          show 1 + _ + _ + 1 + _ < _
          omega
        · simp
          first|done|rfl|exact ⟨rfl,rfl⟩
  · rw [aEz hk]
    refine EvP.no (by omega) (EvP.no (by omega) (EvP.no (by omega) (EvP.no (by omega) (EvP.no (by omega) (EvP.yes hk (EvP.fK rfl (EvP.dO (nJ t.x hs (by omega)) (EvP.yes (by rw [List.length_map];show 1 + _ < _;omega) (EvP.fK rfl (EvP.dO hb (EvP.yes ?_ (EvP.ret ?_))))))))))))
    · rw [List.length_append,List.length_map,List.length_map,eb]
      show 1 + _ + _ < _
      omega
    · simp
      first|done|rfl|exact ⟨rfl,rfl⟩
  · have h1:=xX hbx hv (.inl hk)
    rw [aFa hk]
    exact EvP.no (by omega) (EvP.yes hk (EvP.dO (sQ t.bx.toNat t.bx (by omega) h1.1 (by omega)) (EvP.dO (BM [GH,dec t.bx] (by simp) t.x hs hd) (EvP.ret rfl))))
  · have h1:=xX hbx hv (.inr hk)
    have h2:=xY hv (.inr hk)
    rw [aFb hk]
    exact EvP.no (by omega) (EvP.no (by omega) (EvP.no (by omega) (EvP.yes hk (EvP.dO (sQ t.bx.toNat t.bx (by omega) h1.1 (by omega)) (EvP.fK (uQ h2) (EvP.ret rfl))))))
  · rw [aFc hk]
    exact EvP.no (by omega) (EvP.no (by omega) (EvP.no (by omega) (EvP.no (by omega) (EvP.yes hk (EvP.ret rfl)))))
  · rw [aFd hk]
    exact EvP.no (by omega) (EvP.no (by omega) (EvP.yes hk (EvP.dO (BM [xZ] (by simp) t.x hs hd) (EvP.ret rfl))))
theorem xK {boxes:Int} (hbx:boxes≤3) (l:List ST) (hc:cT l≤5000) (hv:∀ t ∈ l,VS boxes t) (hs:∀ t ∈ l,SK t.b∧SK t.e):∀ (d j:Nat) (out:List ByteArray),j + d=l.length→out.length + 170 * cT (l.drop j) + 5≤1000000→
    EvP (fun k=>bK.l0 k (gK l) out (j:Int)) (·=out ++ (sTs (l.drop j) ++ [[125]]).map ba)
  |0,j,out,h,ho=>by
    refine EvP.step (fun k=>bK.l0.eq_2 (k:=k) ..) (EvP.no (by rw [iV];omega) (EvP.yes (by omega) (EvP.ret ?_)))
    rw [List.drop_eq_nil_of_le (by omega),sTs]
    rfl
  |d + 1,j,out,h,ho=>by
    have hj:j < l.length:=by omega
    have hcl:=yG l
    have hcd:cT (l.drop j)=cT [l[j]] + cT (l.drop (j + 1)):=by rw [List.drop_eq_getElem_cons hj,yF,sD]
    have hsp:=aCm l j
    have hm:l[j] ∈ l:=by simp
    have hlen:=TW l[j] (hv _ hm)
    refine EvP.step (fun k=>bK.l0.eq_2 (k:=k) ..) (EvP.yes (by rw [iV];omega) (EvP.yes (by omega) ?_))
    rw [aAq l j hj]
    refine EvP.dO (GN hbx l[j] (hv _ hm) (by omega) (hs _ hm).1 (hs _ hm).2) (EvP.yes (by rw [List.length_map];omega) ?_)
    rw [w64 (by omega) (by omega),show (j:Int) + 1=((j + 1:Nat):Int) by omega]
    refine (xK hbx l hc hv hs d (j + 1) _ (by omega) (by rw [List.length_append,List.length_map];omega)).mono (fun a ha=>?_)
    rw [ha,RZ l j hj]
    simp
theorem EO {boxes:Int} (hbx:boxes≤3):∀ (c:Nat) (l:List ST),cT l≤c→c≤5000→(∀ t ∈ l,VS boxes t)→SK l:=by
 intro c
 induction c with
 |zero=>
  intro l hc h5 hv
  have hl:l=[]:=by
   have:=yG l
   exact List.eq_nil_of_length_eq_zero (by omega)
  subst hl
  refine EvP.step (fun k=>bK.f.eq_2 (k:=k) ..) ?_
  refine (xK hbx [] (by omega) hv (fun t h=>by cases h) 0 0 _ rfl (by show 1 + _ + _≤_;simp only [List.drop_nil];omega)).mono (fun a ha=>?_)
  rw [ha]
  unfold nK
  simp
  first|done|rfl
 |succ c ih=>
  intro l hc h5 hv
  have hs:∀ t ∈ l,SK t.b∧SK t.e:=by
   intro t ht
   have h1:cT [t]≤cT l:=by
    obtain ⟨s,r,rfl⟩:=List.append_of_mem ht
    rw [yE,yF t r,sD]
    omega
   rw [sD] at h1
   exact ⟨ih t.b (by omega) (by omega) (hv t ht).b,ih t.e (by omega) (by omega) (hv t ht).e⟩
  refine EvP.step (fun k=>bK.f.eq_2 (k:=k) ..) ?_
  refine (xK hbx l (by omega) hv hs l.length 0 _ (by omega) (by show 1 + _ + _≤_;rw [List.drop_zero];omega)).mono (fun a ha=>?_)
  rw [ha,List.drop_zero]
  unfold nK
  simp
  first|done|rfl
theorem DF (l:List (List S58)) (i:Nat) (h:i < l.length):fV l (i:Int)=l[i]:=by
 unfold fV
 rw [Int.toNat_natCast,List.getD_eq_getElem?_getD,List.getElem?_eq_getElem h]
 rfl
def tK (r:Int):Bool:=decide (1≤r) && decide (r≤4)
def rR (rs:List Int):Bool:=rs.all tK && decide ((rs.length:Int)≤3)
theorem LY (rs:List Int) (hl:rs.length≤1000000000):∀ (d j:Nat),j + d=rs.length→EvP (fun k=>dH.l0 k rs rs (rs.length:Int) (j:Int)) (·=((rs.drop j).all tK && decide ((rs.length:Int)≤3))):=by
  intro d
  induction d with
  |zero=>
    intro j hj
    refine EvP.step (fun k=>dH.l0.eq_2 (k:=k) ..) (EvP.no (by omega) (EvP.ret ?_))
    rw [List.drop_eq_nil_of_le (by omega)]
    rfl
  |succ d ih=>
    intro j hj
    have hlt:j < rs.length:=by omega
    refine EvP.step (fun k=>dH.l0.eq_2 (k:=k) ..) (EvP.yes (by omega) (EvP.yes (by omega) (EvP.yes (by omega) ?_)))
    rw [OV rs j hlt,w64 (by omega) (by omega),List.drop_eq_getElem_cons hlt,List.all_cons]
    refine EvP.ite (fun h=>EvP.ret ?_) (fun h=>EvP.ite (fun h2=>EvP.ret ?_) (fun h2=>?_))
    · have:tK rs[j]=false:=by
        unfold tK
        rw [decide_eq_false (by omega)]
        rfl
      rw [this]
      rfl
    · have:tK rs[j]=false:=by
        unfold tK
        rw [decide_eq_false (p:=rs[j]≤4) (by omega),Bool.and_false]
      rw [this]
      rfl
    · have:tK rs[j]=true:=by
        unfold tK
        rw [decide_eq_true (by omega),decide_eq_true (by omega)]
        rfl
      rw [this,Bool.true_and]
      exact ih (j + 1) (by omega)
theorem LX (rs:List Int) (hl:rs.length≤1000000000):EvP (fun k=>dH.f k rs) (·=rR rs):=by
  unfold dH.f
  exact LY rs hl rs.length 0 (by omega)
theorem MK (rs:List Int) (hl:rs.length≤1000000000):∀ (d j:Nat),j + d=rs.length→EvP (fun k=>dW.l0 k rs (j:Int)) (·=((rs.drop j).all tK && decide ((rs.length:Int)≤3))):=by
  intro d
  induction d with
  |zero=>
    intro j hj
    refine EvP.step (fun k=>dW.l0.eq_2 (k:=k) ..) (EvP.no (by omega) (EvP.ret ?_))
    rw [List.drop_eq_nil_of_le (by omega)]
    rfl
  |succ d ih=>
    intro j hj
    have hlt:j < rs.length:=by omega
    refine EvP.step (fun k=>dW.l0.eq_2 (k:=k) ..) (EvP.yes (by omega) (EvP.yes (by omega) ?_))
    rw [OV rs j hlt,w64 (by omega) (by omega),List.drop_eq_getElem_cons hlt,List.all_cons,vZ]
    refine EvP.fK rfl (EvP.ite (fun h=>?_) (fun h=>EvP.ret ?_))
    · rw [show tK rs[j]=true from h,Bool.true_and]
      exact ih (j + 1) (by omega)
    · rw [show tK rs[j]=false from Bool.eq_false_iff.mpr h]
      rfl
theorem MJ (rs:List Int) (hl:rs.length≤1000000000):EvP (fun k=>dW.f k rs) (·=rR rs):=by
  unfold dW.f
  exact MK rs hl rs.length 0 (by omega)
def vY (m:Int) (s:S58):Bool:=!((s.f0 == 4 || s.f0 == 5) && decide (s.f2≥m))
mutual
def bxS (m:Int):S58→Bool
 |⟨a,b,c,e,l1,l2⟩=>vY m ⟨a,b,c,e,l1,l2⟩ && (tQ m l1 && tQ m l2)
def tQ (m:Int):List S58→Bool
 |[]=>true
 |x :: xs=>bxS m x && tQ m xs
end
theorem aCk (m:Int) (s:S58):bxS m s=(vY m s && (tQ m s.f4 && tQ m s.f5)):=by
 cases s
 rw [bxS]
theorem IW (m:Int):∀ l:List S58,tQ m l=l.all (bxS m)
 |[]=>by rw [tQ];rfl
 |x :: xs=>by rw [tQ,IW m xs];rfl
theorem EN (m:Int):∀ (c:Nat) (l:List S58),cSs l≤c→c≤1000000000→EvP (fun k=>bN.f k l m) (·=tQ m l):=by
  intro c
  induction c with
  |zero=>
    intro l hl hc
    have:=gG l
    obtain rfl:=List.eq_nil_of_length_eq_zero (show l.length=0 by omega)
    exact EvP.step (fun k=>bN.f.eq_2 (k:=k) ..) (EvP.step (fun k=>bN.l0.eq_2 (k:=k) ..) (EvP.no (by simp) (EvP.ret (by rw [tQ]))))
  |succ c ih=>
    intro l hl hc
    have hlen:=gG l
    have loop:∀ (r j:Nat),j + r=l.length→EvP (fun k=>bN.l0 k l m (j:Int)) (·=tQ m (l.drop j)):=by
      intro r
      induction r with
      |zero=>
        intro j hj
        refine EvP.step (fun k=>bN.l0.eq_2 (k:=k) ..) (EvP.no (by omega) (EvP.ret ?_))
        rw [List.drop_eq_nil_of_le (by omega),tQ]
      |succ r ih2=>
        intro j hj
        have hlt:j < l.length:=by omega
        have hm:=yD l _ (List.getElem_mem hlt)
        have hcs:=OJ l[j]
        have hd:tQ m (l.drop j)=(bxS m l[j] && tQ m (l.drop (j + 1))):=by
          rw [List.drop_eq_getElem_cons hlt,tQ]
        rw [hd,aCk]
        have j1:∀ b:Bool,(vY m l[j]=!b)→EvP (fun k=>bN.j1 k l m (j:Int) b l[j].f0 l[j].f1 l[j].f2 l[j].f3.f0 l[j].f3.f1 l[j].f3.f2 l[j].f4 l[j].f5) (·=(vY m l[j] && (tQ m l[j].f4 && tQ m l[j].f5) && tQ m (l.drop (j + 1)))):=by
          intro b hb
          refine EvP.step (fun k=>bN.j1.eq_2 (k:=k) ..) (EvP.ite (fun h=>EvP.ret ?_) (fun h=>?_))
          · rw [hb,h]
            rfl
          · rw [hb,Bool.eq_false_iff.mpr h,w64 (n:=(j:Int) + 1) (by omega) (by omega)]
            refine EvP.dO (ih _ (by omega) (by omega)) (EvP.ite (fun h4=>EvP.dO (ih _ (by omega) (by omega)) (EvP.ite (fun h5=>?_) (fun h5=>EvP.ret ?_))) (fun h4=>EvP.ret ?_))
            · rw [h4,h5]
              exact ih2 (j + 1) (by omega)
            · rw [Bool.eq_false_iff.mpr h5]
              simp
            · rw [Bool.eq_false_iff.mpr h4]
              simp
        refine EvP.step (fun k=>bN.l0.eq_2 (k:=k) ..) (EvP.yes (by omega) (EvP.yes (by omega) ?_))
        rw [DI l j hlt]
        refine EvP.ite (fun h4=>j1 _ ?_) (fun h4=>EvP.ite (fun h5=>j1 _ ?_) (fun h5=>j1 _ ?_))
        · simp [vY,h4]
        · simp [vY,h5]
        · simp [vY,h4,h5]
    refine EvP.step (fun k=>bN.f.eq_2 (k:=k) ..) ?_
    exact loop l.length 0 (by omega)
theorem NQ (m:Int) (h0:0≤m) (h3:m≤3) (s:S58):stS m s=(stS 3 s && vY m s):=by
 rw [Bool.eq_iff_iff,Bool.and_eq_true]
 unfold stS yT mZ vY xD
 by_cases c4:s.f0=4
 ·simp only [c4]
  simp
  constructor
  ·rintro ⟨a,⟨b,c⟩,d⟩
   exact ⟨⟨a,⟨b,by omega⟩,d⟩,by omega⟩
  ·rintro ⟨⟨a,⟨b,c⟩,d⟩,e⟩
   exact ⟨a,⟨b,by omega⟩,d⟩
 ·by_cases c5:s.f0=5
  ·simp only [c5]
   simp
   constructor
   ·rintro ⟨a,⟨b,c⟩,d⟩
    exact ⟨⟨a,⟨b,by omega⟩,d⟩,by omega⟩
   ·rintro ⟨⟨a,⟨b,c⟩,d⟩,e⟩
    exact ⟨a,⟨b,by omega⟩,d⟩
  ·simp [c4,c5]
theorem pW (m:Int) (h0:0≤m) (h3:m≤3):∀ (d:Nat) (s:S58),kU m d s=true ↔ (kU 3 d s=true∧bxS m s=true)
 |0,s=>by
  simp only [kU,Bool.and_eq_true,NQ m h0 h3 s,aCk]
  constructor
  ·rintro ⟨⟨a,b⟩,c⟩
   have hf:=HZ a (fun e=>by rw [(sH s).mpr e] at c;cases c)
   rw [OJ] at hf
   have l4:=gG s.f4
   have l5:=gG s.f5
   rw [List.eq_nil_of_length_eq_zero (show s.f4.length=0 by omega),List.eq_nil_of_length_eq_zero (show s.f5.length=0 by omega)]
   exact ⟨⟨a,c⟩,b,by rw [tQ],by rw [tQ]⟩
  ·rintro ⟨⟨a,c⟩,b,_⟩
   exact ⟨⟨a,b⟩,c⟩
 |d + 1,s=>by
  have ih:∀ l:List S58,l.all (kU m d)=true ↔ (l.all (kU 3 d)=true∧tQ m l=true):=by
   intro l
   rw [IW,List.all_eq_true,List.all_eq_true,List.all_eq_true]
   constructor
   ·exact fun h=>⟨fun x hx=>((pW m h0 h3 d x).mp (h x hx)).1,fun x hx=>((pW m h0 h3 d x).mp (h x hx)).2⟩
   ·exact fun h x hx=>(pW m h0 h3 d x).mpr ⟨h.1 x hx,h.2 x hx⟩
  simp only [kU,Bool.and_eq_true,Bool.or_eq_true,NQ m h0 h3 s,aCk,ih]
  cases hb:rV s with
  |true=>
   simp only [Bool.not_true,Bool.false_eq_true,false_or]
   constructor
   ·rintro ⟨⟨a,b⟩,⟨c1,c2⟩,d1,d2⟩
    exact ⟨⟨a,c1,d1⟩,b,c2,d2⟩
   ·rintro ⟨⟨a,c1,d1⟩,b,c2,d2⟩
    exact ⟨⟨a,b⟩,⟨c1,c2⟩,d1,d2⟩
  |false=>
   simp only [Bool.not_false,true_or,and_true]
   constructor
   ·rintro ⟨a,b⟩
    have hf:=HZ a (fun e=>by rw [(sH s).mpr e] at hb;cases hb)
    rw [OJ] at hf
    have l4:=gG s.f4
    have l5:=gG s.f5
    rw [List.eq_nil_of_length_eq_zero (show s.f4.length=0 by omega),List.eq_nil_of_length_eq_zero (show s.f5.length=0 by omega)]
    exact ⟨a,b,by rw [tQ],by rw [tQ]⟩
   ·rintro ⟨a,b,_⟩
    exact ⟨a,b⟩
theorem aBn (m:Int) (h0:0≤m) (h3:m≤3) (l:List S58):okT m l=(okT 3 l && tQ m l):=by
 rw [Bool.eq_iff_iff,Bool.and_eq_true,CZ,CZ,IW]
 unfold okL
 rw [List.all_eq_true,List.all_eq_true,List.all_eq_true]
 constructor
 ·exact fun h=>⟨⟨fun x hx=>((pW m h0 h3 3 x).mp (h.1 x hx)).1,h.2⟩,fun x hx=>((pW m h0 h3 3 x).mp (h.1 x hx)).2⟩
 ·exact fun h=>⟨fun x hx=>(pW m h0 h3 3 x).mpr ⟨h.1.1 x hx,h.2 x hx⟩,h.1.2⟩
def mY (rs:List Int) (ts:List (List S58)):Bool:=rR rs && (decide (1≤ts.length) && decide (ts.length≤3) && ts.all (okT (rs.length:Int)))
theorem NP {rs:List Int} (h:rR rs=true):(0:Int)≤rs.length∧(rs.length:Int)≤3:=by
 unfold rR at h
 rw [Bool.and_eq_true,decide_eq_true_eq] at h
 exact ⟨by omega,h.2⟩
def AZ (ts:List (List S58)):Prop:=ts.length≤1000000000∧∀ t ∈ ts,cSs t≤1000000000
theorem sU (rs:List Int) (ts:List (List S58)) (hr:rs.length≤1000000000) (ht:AZ ts):EvP (fun k=>bE.f k rs ts) (·=mY rs ts):=by
  obtain ⟨hl,ht⟩:=ht
  have loop:rR rs=true→∀ (d j:Nat),j + d=ts.length→EvP (fun k=>bE.l0 k ts (ts.length:Int) (j:Int) rs ts) (·=(ts.drop j).all (okT (rs.length:Int))):=by
    intro hro d
    induction d with
    |zero=>
      intro j hj
      refine EvP.step (fun k=>bE.l0.eq_2 (k:=k) ..) (EvP.no (by omega) (EvP.ret ?_))
      rw [List.drop_eq_nil_of_le (by omega)]
      rfl
    |succ d ih=>
      intro j hj
      have hlt:j < ts.length:=by omega
      refine EvP.step (fun k=>bE.l0.eq_2 (k:=k) ..) (EvP.yes (by omega) (EvP.yes (by omega) (EvP.yes (by omega) ?_)))
      rw [DF ts j hlt,w64 (by omega) (by omega),List.drop_eq_getElem_cons hlt,List.all_cons]
      refine EvP.dO (BL _ _ (ht _ (List.getElem_mem hlt))) (EvP.ite (fun h=>?_) (fun h=>EvP.ret ?_))
      · rw [h,Bool.true_and]
        exact ih (j + 1) (by omega)
      · rw [Bool.eq_false_iff.mpr h]
        rfl
  have j0:∀ b:Bool,(b=false→rR rs=true∧1≤ts.length∧ts.length≤3)→(b=true→mY rs ts=false)→EvP (fun k=>bE.j0 k b rs ts) (·=mY rs ts):=by
    intro b h1 h2
    refine EvP.step (fun k=>bE.j0.eq_2 (k:=k) ..) (EvP.ite (fun h=>EvP.ret (h2 h).symm) (fun h=>?_))
    obtain ⟨g1,g2,g3⟩:=h1 (Bool.eq_false_iff.mpr h)
    unfold mY
    rw [g1,decide_eq_true g2,decide_eq_true g3]
    exact loop g1 ts.length 0 (by omega)
  unfold bE.f
  refine EvP.dO (LX rs hr) (EvP.ite (fun h=>EvP.ite (fun h1=>j0 true (fun e=>by cases e) (fun _=>?_)) (fun h1=>j0 _ (fun e=>?_) (fun e=>?_))) (fun h=>j0 true (fun e=>by cases e) (fun _=>?_)))
  · unfold mY
    rw [decide_eq_false (by omega)]
    simp
  · have:=of_decide_eq_false e
    exact ⟨h,by omega,by omega⟩
  · have:=of_decide_eq_true e
    unfold mY
    rw [decide_eq_false (p:=ts.length≤3) (by omega)]
    simp
  · unfold mY
    rw [Bool.eq_false_iff.mpr h]
    rfl
theorem sZ (rs:List Int) (ts:List (List S58)) (hr:rs.length≤1000000000) (ht:AZ ts):EvP (fun k=>aX.f k rs ts) (·=mY rs ts):=by
  obtain ⟨hl,ht⟩:=ht
  have loop:rR rs=true→∀ (d j:Nat),j + d=ts.length→EvP (fun k=>aX.l0 k (j:Int) rs ts) (·=(ts.drop j).all (okT (rs.length:Int))):=by
    intro hro d
    obtain ⟨r0,r3⟩:=NP hro
    induction d with
    |zero=>
      intro j hj
      refine EvP.step (fun k=>aX.l0.eq_2 (k:=k) ..) (EvP.no (by omega) (EvP.ret ?_))
      rw [List.drop_eq_nil_of_le (by omega)]
      rfl
    |succ d ih=>
      intro j hj
      have hlt:j < ts.length:=by omega
      refine EvP.step (fun k=>aX.l0.eq_2 (k:=k) ..) (EvP.yes (by omega) (EvP.yes (by omega) ?_))
      rw [DF ts j hlt,w64 (by omega) (by omega),List.drop_eq_getElem_cons hlt,List.all_cons,aBn _ r0 r3]
      refine EvP.dO (BQ _ (ht _ (List.getElem_mem hlt))) (EvP.ite (fun h=>EvP.dO (EN _ _ _ (ht _ (List.getElem_mem hlt)) (by omega)) (EvP.ite (fun h2=>?_) (fun h2=>EvP.ret ?_))) (fun h=>EvP.ret ?_))
      · rw [h,h2,Bool.true_and,Bool.true_and]
        exact ih (j + 1) (by omega)
      · rw [h,Bool.eq_false_iff.mpr h2]
        rfl
      · rw [Bool.eq_false_iff.mpr h]
        rfl
  have j0:∀ b:Bool,(b=false→rR rs=true∧1≤ts.length∧ts.length≤3)→(b=true→mY rs ts=false)→EvP (fun k=>aX.j0 k b rs ts) (·=mY rs ts):=by
    intro b h1 h2
    refine EvP.step (fun k=>aX.j0.eq_2 (k:=k) ..) (EvP.ite (fun h=>EvP.ret (h2 h).symm) (fun h=>?_))
    obtain ⟨g1,g2,g3⟩:=h1 (Bool.eq_false_iff.mpr h)
    unfold mY
    rw [g1,decide_eq_true g2,decide_eq_true g3]
    exact loop g1 ts.length 0 (by omega)
  unfold aX.f
  refine EvP.dO (MJ rs hr) (EvP.ite (fun h=>?_) (fun h=>j0 true (fun e=>by cases e) (fun _=>?_)))
  · rw [vZ]
    refine EvP.fK rfl (j0 _ (fun e=>?_) (fun e=>?_))
    · rw [Bool.not_eq_false',Bool.and_eq_true,decide_eq_true_eq,decide_eq_true_eq] at e
      exact ⟨h,by omega,by omega⟩
    · unfold mY
      have e2:(decide (1≤ts.length) && decide (ts.length≤3))=false:=by
        rw [Bool.eq_false_iff]
        intro q
        rw [Bool.and_eq_true,decide_eq_true_eq,decide_eq_true_eq] at q
        rw [decide_eq_true (by omega),decide_eq_true (by omega)] at e
        cases e
      rw [e2]
      simp
  · unfold mY
    rw [Bool.eq_false_iff.mpr h]
    rfl
theorem KS {rs:List Int} {ts:List (List S58)}:mY rs ts=true ↔ rR rs=true∧1≤ts.length∧ts.length≤3∧∀ t ∈ ts,okT (rs.length:Int) t=true:=by
 unfold mY
 simp only [Bool.and_eq_true,decide_eq_true_eq,List.all_eq_true,and_assoc]
set_option linter.unusedSimpArgs false
theorem aGk {rs:List Int} {ts:List (List S58)} (h:mY rs ts=true):∃ ms:List (List ST),ms.map gK=ts∧ms.length≤3∧(∀ m ∈ ms,(∀ t ∈ m,AX t)∧cT m≤16)∧∀ m ∈ ms,okT (rs.length:Int) (gK m)=true:=by
 obtain ⟨_,_,h3,h4⟩:=KS.1 h
 suffices ∀ ts:List (List S58),(∀ t ∈ ts,okT (rs.length:Int) t=true)→∃ ms:List (List ST),ms.map gK=ts∧(∀ m ∈ ms,(∀ t ∈ m,AX t)∧cT m≤16)∧∀ m ∈ ms,okT (rs.length:Int) (gK m)=true by
  obtain ⟨ms,e,ha,ho⟩:=this ts h4
  exact ⟨ms,e,by rw [← List.length_map (f:=gK),e];exact h3,ha,ho⟩
 intro ts
 induction ts with
 |nil=>exact fun _=>⟨[],rfl,by simp,by simp⟩
 |cons t ts ih=>
  intro h
  obtain ⟨ms,e,ha,ho⟩:=ih (fun x hx=>h x (List.mem_cons_of_mem _ hx))
  have ht:=h t List.mem_cons_self
  obtain ⟨m,hm,hx⟩:=aDe _ 3 t (CZ.1 ht).1
  subst hm
  refine ⟨m :: ms,by rw [List.map_cons,e],fun y hy=>?_,fun y hy=>?_⟩
  ·rcases List.mem_cons.1 hy with rfl|hy
   ·exact ⟨hx,(CZ.1 ht).2⟩
   ·exact ha y hy
  ·rcases List.mem_cons.1 hy with rfl|hy
   ·exact ht
   ·exact ho y hy
def RY (r:Int):List (List UInt8):=[BX,dec r,[59]]
def nX:List Int→List (List UInt8)
 |[]=>[]
 |r :: rs=>RY r ++ nX rs
def lY:List (List ST)→List (List UInt8)
 |[]=>[]
 |m :: ms=>rW :: nK m ++ lY ms
def pT (rs:List Int) (ms:List (List ST)):List (List UInt8):=nX rs ++ lY ms
structure VP (rs:List Int) (ms:List (List ST)):Prop where
 rooms:∀ r ∈ rs,1≤r∧r≤4
 nr:rs.length≤3
 n1:1≤ms.length
 nm:ms.length≤3
 vs:∀ m ∈ ms,(∀ t ∈ m,VS (rs.length:Int) t)∧cT m≤16
theorem aHo {rs:List Int} {ts:List (List S58)} (h:mY rs ts=true):∃ ms:List (List ST),ms.map gK=ts∧VP rs ms∧(∀ m ∈ ms,(∀ t ∈ m,AX t)∧cT m≤16):=by
 obtain ⟨ms,e,hl,ha,hk⟩:=aGk h
 obtain ⟨h1,h2,h3,h4⟩:=KS.1 h
 refine ⟨ms,e,⟨?_,?_,?_,hl,?_⟩,ha⟩
 ·intro r hr
  unfold rR at h1
  rw [Bool.and_eq_true,List.all_eq_true] at h1
  have:=h1.1 r hr
  unfold tK at this
  rw [Bool.and_eq_true,decide_eq_true_eq,decide_eq_true_eq] at this
  exact this
 ·have:=NP h1
  omega
 ·rw [← e,List.length_map] at h2
  exact h2
 ·intro m hm
  refine ⟨fun t ht=>?_,(ha m hm).2⟩
  have h5:=(CZ.1 (hk m hm)).1
  unfold okL at h5
  rw [List.all_eq_true] at h5
  exact aDs _ 3 t (h5 _ (EC ht)) ((ha m hm).1 t ht)
theorem FV (rs:List Int) (j:Nat) (h:j < rs.length):nX (rs.drop j)=RY rs[j] ++ nX (rs.drop (j + 1)):=by rw [List.drop_eq_getElem_cons h,nX]
theorem FZ (ms:List (List ST)) (j:Nat) (h:j < ms.length):lY (ms.drop j)=rW :: nK ms[j] ++ lY (ms.drop (j + 1)):=by rw [List.drop_eq_getElem_cons h,lY]
theorem FE:∀ rs:List Int,(∀ r ∈ rs,1≤r∧r≤4)→Good (nX rs)
 |[],_=> .nil
 |r :: rs,h=>by
  have h1:=h r (by simp)
  rw [nX]
  exact (Good.cons (rT (by decide)) (by decide) (Good.cons (HY _) (vC (by omega) (by omega)) uD)).app (FE rs (fun x hx=>h x (by simp [hx])))
theorem FH {boxes:Int} (hbx:boxes≤3):∀ ms:List (List ST),(∀ m ∈ ms,∀ t ∈ m,VS boxes t)→Good (lY ms)
 |[],_=> .nil
 |m :: ms,h=>by
  rw [lY]
  exact (Good.cons (rT (by decide)) (by decide) (IZ (aCr hbx m (h m (by simp))))).app (FH hbx ms (fun x hx=>h x (by simp [hx])))
theorem CV {rs:List Int} {ms:List (List ST)} (h:VP rs ms):Good (pT rs ms):=
 (FE rs h.rooms).app (FH (boxes:=(rs.length:Int)) (by have:=h.nr;omega) ms (fun m hm=>(h.vs m hm).1))
theorem KP:∀ rs:List Int,(nX rs).length=3 * rs.length
 |[]=>rfl
 |r :: rs=>by rw [nX,List.length_append,KP rs,List.length_cons];show 3 + _=_;omega
theorem OT {boxes:Int} (m:List ST) (h:∀ t ∈ m,VS boxes t) (hc:cT m≤16):(nK m).length≤2722:=by
 have:=IB m h
 have e:(nK m).length=(sTs m).length + 2:=by simp [nK]
 omega
theorem KQ {boxes:Int}:∀ ms:List (List ST),(∀ m ∈ ms,(∀ t ∈ m,VS boxes t)∧cT m≤16)→(lY ms).length≤2723 * ms.length
 |[],_=>by simp [lY]
 |m :: ms,h=>by
  have h1:=OT m (h m (by simp)).1 (h m (by simp)).2
  have h2:=KQ ms (fun x hx=>h x (by simp [hx]))
  rw [lY,List.length_append,List.length_cons,List.length_cons]
  omega
theorem xM {rs:List Int} {ms:List (List ST)} (h:VP rs ms):(pT rs ms).length≤8200:=by
 have h1:=KP rs
 have h2:=KQ ms h.vs
 have:=h.nr
 have:=h.nm
 unfold pT
 rw [List.length_append]
 omega
theorem SE {rs:List Int} {ms:List (List ST)} (h:VP rs ms):(gZ (pT rs ms)).length≤1000000:=by
 have h1:=EI 5 (pT rs ms) (fun t ht=>(CV h t ht).2)
 have h2:=xM h
 omega
theorem aFp {rs:List Int} {ms:List (List ST)} (h:VP rs ms):pT rs ms≠[]:=by
 have:=h.n1
 unfold pT
 cases ms with
 |nil=>simp at this
 |cons m r=>simp [lY]
theorem aFs (ms:List (List ST)) (j:Nat) (h:j < ms.length):fV (ms.map gK) (j:Int)=gK ms[j]:=by
 rw [DF _ j (by rw [List.length_map];exact h),List.getElem_map]
theorem FJ {rs:List Int} {ms:List (List ST)} (h:VP rs ms):∀ (d j:Nat) (out:List (List UInt8)),j + d=ms.length→out ++ lY (ms.drop j)=pT rs ms→
    EvP (fun k=>bC.l1 k (out.map ba) (ms.map gK) ((ms.map gK).length:Int) (j:Int)) (·=ba (gZ (pT rs ms)))
  |0,j,out,hj,ho=>by
    have e:out=pT rs ms:=by rw [← ho,List.drop_eq_nil_of_le (by omega),lY,List.append_nil]
    have hl:=xM h
    have hg:=CV h
    refine EvP.step (fun k=>bC.l1.eq_2 (k:=k) ..) (EvP.no (by rw [List.length_map];omega) ?_)
    rw [e]
    exact EvP.dO (BH _ (by omega) (fun t ht=>by have:=(hg t ht).2;omega) (fun t ht=>(hg t ht).1) (by have:=SE h;omega)) (EvP.ret rfl)
  |d + 1,j,out,hj,ho=>by
    have hj':j < ms.length:=by omega
    have hm:=h.vs ms[j] (by simp)
    have hl:=xM h
    have hb:=OT ms[j] hm.1 hm.2
    have hle:out.length≤8200:=by
      have:=congrArg List.length ho
      rw [List.length_append] at this
      omega
    have hn:=h.nm
    refine EvP.step (fun k=>bC.l1.eq_2 (k:=k) ..) (EvP.yes (by rw [List.length_map];omega) (EvP.yes (by omega) (EvP.yes (by rw [List.length_map];omega) (EvP.yes (by rw [List.length_map];omega) ?_))))
    rw [aFs ms j hj']
    refine EvP.dO (yQ (boxes:=(rs.length:Int)) (by have:=h.nr;omega) 16 ms[j] hm.2 (by omega) hm.1 _ (by rw [List.length_append,List.length_map];show _ + 1 + _ + _≤_;omega)) ?_
    rw [w64 (by omega) (by omega),show (j:Int) + 1=((j + 1:Nat):Int) by omega]
    have e2:out.map ba ++ [(⟨#[116,97,115,107]⟩:ByteArray)] ++ (nK ms[j]).map ba=(out ++ rW :: nK ms[j]).map ba:=by
      simp
      rfl
    rw [e2]
    exact FJ h d (j + 1) _ (by omega) (by rw [← ho,FZ ms j hj'];simp)
theorem FI {rs:List Int} {ms:List (List ST)} (h:VP rs ms):∀ (d j:Nat) (out:List (List UInt8)),j + d=rs.length→out ++ nX (rs.drop j) ++ lY ms=pT rs ms→
    EvP (fun k=>bC.l0 k (out.map ba) rs (rs.length:Int) (j:Int) rs (ms.map gK)) (·=ba (gZ (pT rs ms)))
  |0,j,out,hj,ho=>by
    refine EvP.step (fun k=>bC.l0.eq_2 (k:=k) ..) (EvP.no (by omega) ?_)
    exact FJ h ms.length 0 out (by omega) (by rw [← ho,show rs.drop j=[] from List.drop_eq_nil_of_le (by omega)];simp [nX])
  |d + 1,j,out,hj,ho=>by
    have hj':j < rs.length:=by omega
    have hr:=h.rooms rs[j] (by simp)
    have hl:=xM h
    have hn:=h.nr
    have hle:out.length≤8200:=by
      have:=congrArg List.length ho
      rw [List.length_append,List.length_append] at this
      omega
    refine EvP.step (fun k=>bC.l0.eq_2 (k:=k) ..) (EvP.yes (by omega) (EvP.yes (by omega) (EvP.yes (by omega) ?_)))
    rw [OV rs j hj']
    refine EvP.fK (GR (by omega) (by omega)) (EvP.fK rfl (EvP.yes (by rw [List.length_map];show _ + 3 < _;omega) ?_))
    rw [w64 (by omega) (by omega),show (j:Int) + 1=((j + 1:Nat):Int) by omega]
    have e2:out.map ba ++ [(⟨#[98,111,120]⟩:ByteArray),ba (dec rs[j]),(⟨#[59]⟩:ByteArray)]=(out ++ RY rs[j]).map ba:=by
      rw [List.map_append]
      rfl
    rw [e2]
    exact FI h d (j + 1) _ (by omega) (by rw [← ho,FV rs j hj'];simp)
theorem FX {rs:List Int} {ms:List (List ST)} (h:VP rs ms):∀ (d j:Nat) (out:List (List UInt8)),j + d=ms.length→out ++ lY (ms.drop j)=pT rs ms→
    EvP (fun k=>bA.l1 k (out.map ba) (j:Int) rs (ms.map gK)) (·=ba (gZ (pT rs ms)))
  |0,j,out,hj,ho=>by
    have e:out=pT rs ms:=by rw [← ho,List.drop_eq_nil_of_le (by omega),lY,List.append_nil]
    have hl:=xM h
    have hg:=CV h
    refine EvP.step (fun k=>bA.l1.eq_2 (k:=k) ..) (EvP.no (by rw [List.length_map];omega) ?_)
    rw [e]
    exact EvP.dO (BS _ (by omega) (fun t ht=>by have:=(hg t ht).2;omega) (fun t ht=>(hg t ht).1) (by have:=SE h;omega)) (EvP.ret rfl)
  |d + 1,j,out,hj,ho=>by
    have hj':j < ms.length:=by omega
    have hm:=h.vs ms[j] (by simp)
    have hl:=xM h
    have hb:=OT ms[j] hm.1 hm.2
    have hle:out.length≤8200:=by
      have:=congrArg List.length ho
      rw [List.length_append] at this
      omega
    have hn:=h.nm
    refine EvP.step (fun k=>bA.l1.eq_2 (k:=k) ..) (EvP.yes (by rw [List.length_map];omega) (EvP.yes (by rw [List.length_map];omega) (EvP.fK rfl (EvP.yes (by omega) ?_))))
    rw [aFs ms j hj']
    refine EvP.dO (EO (boxes:=(rs.length:Int)) (by have:=h.nr;omega) 16 ms[j] hm.2 (by omega) hm.1) (EvP.yes (by rw [List.length_append,List.length_map,List.length_map];show _ + 1 + _ < _;omega) ?_)
    rw [w64 (by omega) (by omega),show (j:Int) + 1=((j + 1:Nat):Int) by omega]
    have e2:out.map ba ++ [(⟨#[116,97,115,107]⟩:ByteArray)] ++ (nK ms[j]).map ba=(out ++ rW :: nK ms[j]).map ba:=by
      simp
      rfl
    rw [e2]
    exact FX h d (j + 1) _ (by omega) (by rw [← ho,FZ ms j hj'];simp)
theorem FY {rs:List Int} {ms:List (List ST)} (h:VP rs ms):∀ (d j:Nat) (out:List (List UInt8)),j + d=rs.length→out ++ nX (rs.drop j) ++ lY ms=pT rs ms→
    EvP (fun k=>bA.l0 k (out.map ba) (j:Int) rs (ms.map gK)) (·=ba (gZ (pT rs ms)))
  |0,j,out,hj,ho=>by
    refine EvP.step (fun k=>bA.l0.eq_2 (k:=k) ..) (EvP.no (by omega) ?_)
    exact FX h ms.length 0 out (by omega) (by rw [← ho,show rs.drop j=[] from List.drop_eq_nil_of_le (by omega)];simp [nX])
  |d + 1,j,out,hj,ho=>by
    have hj':j < rs.length:=by omega
    have hr:=h.rooms rs[j] (by simp)
    have hl:=xM h
    have hn:=h.nr
    have hle:out.length≤8200:=by
      have:=congrArg List.length ho
      rw [List.length_append,List.length_append] at this
      omega
    refine EvP.step (fun k=>bA.l0.eq_2 (k:=k) ..) (EvP.yes (by omega) (EvP.yes (by omega) ?_))
    rw [OV rs j hj']
    refine EvP.dO (sQ rs[j].toNat rs[j] (by omega) (by omega) (by omega)) (EvP.fK rfl (EvP.yes (by rw [List.length_map];show _ + 3 < _;omega) ?_))
    rw [w64 (by omega) (by omega),show (j:Int) + 1=((j + 1:Nat):Int) by omega]
    have e2:out.map ba ++ [(⟨#[98,111,120]⟩:ByteArray),ba (dec rs[j]),(⟨#[59]⟩:ByteArray)]=(out ++ RY rs[j]).map ba:=by
      rw [List.map_append]
      rfl
    rw [e2]
    exact FY h d (j + 1) _ (by omega) (by rw [← ho,FV rs j hj'];simp)
theorem xI {rs:List Int} {ms:List (List ST)} (hr:rs.length≤1000000000) (ht:AZ (ms.map gK)) (h:VP rs ms) (hp:mY rs (ms.map gK)=true):EvP (fun k=>bC.f k rs (ms.map gK)) (·=ba (gZ (pT rs ms))):=by
  unfold bC.f
  exact EvP.dO (sU rs _ hr ht) (EvP.yes hp (FI h rs.length 0 [] (by omega) rfl))
theorem xS {rs:List Int} {ms:List (List ST)} (hr:rs.length≤1000000000) (ht:AZ (ms.map gK)) (h:VP rs ms) (hp:mY rs (ms.map gK)=true):EvP (fun k=>bA.f k rs (ms.map gK)) (·=ba (gZ (pT rs ms))):=by
  unfold bA.f
  exact EvP.dO (sZ rs _ hr ht) (EvP.yes hp (FY h rs.length 0 [] (by omega) rfl))
theorem yP {rs:List Int} {ts:List (List S58)} (hr:rs.length≤1000000000) (ht:AZ ts) (hp:mY rs ts=false):EvP (fun k=>bC.f k rs ts) (·=(⟨#[]⟩:ByteArray)):=by
  unfold bC.f
  exact EvP.dO (sU rs _ hr ht) (EvP.no (by rw [hp];exact Bool.false_ne_true) (EvP.ret rfl))
theorem yS {rs:List Int} {ts:List (List S58)} (hr:rs.length≤1000000000) (ht:AZ ts) (hp:mY rs ts=false):EvP (fun k=>bA.f k rs ts) (·=(⟨#[]⟩:ByteArray)):=by
  unfold bA.f
  exact EvP.dO (sZ rs _ hr ht) (EvP.no (by rw [hp];exact Bool.false_ne_true) (EvP.ret rfl))
open Go.Proofs.YtjamfkpgmkhbnaaGreatDoorW.PrintLast
theorem RF (b:List Int) (hb:Bytes b):∀ (d:Nat) (l:List Int) (n:Int) (p:Int),(l.length:Int) + d=n→n≤3→0≤p→p + d≤800000000000→
  EvP (fun k=>dP.l0 k l n (l.length:Int) b p) (fun r=>r.2=p + d∧r.1.length=l.length + d):=by
 intro d
 induction d with
 |zero=>
  intro l n p hn h3 h0 h1
  exact EvP.step (fun k=>dP.l0.eq_2 (k:=k) ..) (EvP.no (by omega) (EvP.ret ⟨by simp,rfl⟩))
 |succ d ih=>
  intro l n p hn h3 h0 h1
  refine EvP.step (fun k=>dP.l0.eq_2 (k:=k) ..) (EvP.yes (by omega) (EvP.fK rfl (gD hb h0 (by omega) fun v v0 v1 _=>?_)))
  have:=v1 (by omega)
  dsimp only
  refine EvP.yes (by omega) (EvP.yes (by simp;omega) (EvP.yes (by omega) ?_))
  have e:wrap64 ((l.length:Int) + 1)=((l ++ [rd [1,1,2,3,4] v]).length:Int):=by
   rw [w64 (by omega) (by omega),List.length_append]
   simp
  rw [e]
  refine (ih _ n _ (by rw [List.length_append,List.length_singleton];omega) h3 (by omega) (by omega)).mono fun r hr=>?_
  rw [List.length_append,List.length_singleton] at hr
  omega
theorem RD (b:List Int) (hb:Bytes b) (p:Int) (h0:0≤p) (h1:p≤700000000000):EvP (fun k=>dP.f k b p) (fun r=>p≤r.2∧r.2≤p + 4∧r.1.length≤3):=by
 unfold dP.f
 refine EvP.fK rfl (gD hb h0 (by omega) fun v v0 v1 _=>?_)
 have:=v1 (by omega)
 dsimp only
 refine EvP.yes (by omega) (EvP.yes (by simp;omega) ?_)
 have hm:rd [0,1,1,2,2,3] v ∈ [0,1,1,2,2,3]:=aDm _ _ (by omega) (by simp;omega)
 have hr:0≤rd [0,1,1,2,2,3] v∧rd [0,1,1,2,2,3] v≤3:=by
  generalize rd [0,1,1,2,2,3] v=x at hm
  simp at hm
  omega
 refine (RF b hb (rd [0,1,1,2,2,3] v).toNat [] (rd [0,1,1,2,2,3] v) (p + 1) (by simp;omega) (by omega) (by omega) (by omega)).mono fun r hr=>?_
 simp only [List.length_nil] at hr
 omega
def DP (p:Int) (P R T C:Nat) (r:List Int × List (List (S58)) × Int):Prop:=p≤r.2.2∧r.2.2≤p + P∧r.1.length≤R∧r.2.1.length≤T∧∀ t ∈ r.2.1,cSs t≤C
theorem MC (b:List Int) (hb:Bytes b) (rs:List Int):∀ (d:Nat) (ts:List (List (S58))) (n p:Int),(ts.length:Int) + d=n→1≤n→n≤3→0≤p→p + d * 3000000≤100000000000→(∀ t ∈ ts,cSs t≤36)→
  EvP (fun k=>bR.l0 k n (ts.length:Int) b p rs ts) (fun r=>p≤r.2.2∧r.2.2≤p + d * 3000000 + 200000∧r.1=rs∧1≤r.2.1.length∧r.2.1.length≤3∧∀ t ∈ r.2.1,cSs t≤36):=by
 intro d
 induction d with
 |zero=>
  intro ts n p hn h1 h3 h0 hp ht
  refine EvP.step (fun k=>bR.l0.eq_2 (k:=k) ..) (EvP.no (by omega) (gD hb h0 (by omega) fun v v0 v1 _=>?_))
  dsimp only
  refine EvP.ite (fun _=>EvP.bind (LZ b hb _ (by omega) (by omega)) fun s hs=>EvP.yes (by omega) (EvP.ret ?_)) (fun _=>EvP.ret ?_)
  ·unfold DS at hs
   refine ⟨by dsimp only;omega,by dsimp only;omega,rfl,by dsimp only;rw [List.length_set];omega,by dsimp only;rw [List.length_set];omega,fun t hm=>?_⟩
   rcases List.mem_or_eq_of_mem_set hm with hm|rfl
   ·exact ht t hm
   ·simp only [cSs,cS]
    omega
  ·exact ⟨by dsimp only;omega,by dsimp only;omega,rfl,by dsimp only;omega,by dsimp only;omega,ht⟩
 |succ d ih=>
  intro ts n p hn h1 h3 h0 hp ht
  refine EvP.step (fun k=>bR.l0.eq_2 (k:=k) ..) (EvP.yes (by omega) (EvP.bind (RG b hb p _ h0 (by omega)) fun s hs=>EvP.yes (by omega) ?_))
  obtain ⟨s0,s1,s2⟩:=hs
  have e:wrap64 ((ts.length:Int) + 1)=((ts ++ [s.1]).length:Int):=by
   rw [w64 (by omega) (by omega),List.length_append]
   simp
  rw [e]
  refine (ih _ n s.2 (by rw [List.length_append,List.length_singleton];omega) h1 h3 (by omega) (by omega) (fun t hm=>?_)).mono fun r hr=>?_
  ·rcases List.mem_append.1 hm with hm|hm
   ·exact ht t hm
   ·rw [List.mem_singleton.1 hm]
    omega
  ·obtain ⟨r0,r1,r2⟩:=hr
   exact ⟨by omega,by omega,r2⟩
theorem MB (b:List Int) (hb:Bytes b) (p:Int) (h0:0≤p) (h1:p≤50000000000):EvP (fun k=>bR.f k b p) (fun r=>DP p 9500000 3 3 36 r∧1≤r.2.1.length):=by
 unfold bR.f
 refine EvP.bind (RD b hb p h0 (by omega)) fun r hr=>gD hb (by omega) (by omega) fun v v0 v1 _=>?_
 have:=v1 (by omega)
 dsimp only
 rw [w64 (by omega) (by omega)]
 refine (MC b hb r.1 (1 + v).toNat [] (1 + v) (r.2 + 1) (by simp;omega) (by omega) (by omega) (by omega) (by omega) (fun t ht=>by cases ht)).mono fun s hs=>?_
 obtain ⟨s0,s1,s2,s3,s4,s5⟩:=hs
 exact ⟨⟨by omega,by omega,by rw [s2];omega,by omega,s5⟩,s3⟩
theorem RV (l:List (List (S58))) (h:0 < l.length):fV l 0 ∈ l:=by
 rw [show (0:Int)=((0:Nat):Int) from rfl,DF l 0 h]
 exact List.getElem_mem h
theorem RI (b:List Int) (hb:Bytes b) (p:Int) (h0:0≤p) (h1:p≤50000000000):EvP (fun k=>dF.f k b p) (DP p 9600000 4 6 40):=by
 unfold dF.f
 refine EvP.bind (MB b hb p h0 h1) fun r hr=>?_
 obtain ⟨⟨r0,r1,r2,r3,r4⟩,r5⟩:=hr
 refine gD hb (by omega) (by omega) fun v v0 v1 _=>?_
 dsimp only
 have hl:∀ t ∈ r.2.1,cSs t≤40:=fun t ht=>Nat.le_trans (r4 t ht) (by omega)
 refine EvP.ite (fun h=>?_) (fun h=>EvP.ite (fun h=>?_) (fun h=>EvP.ite (fun h=>?_) (fun h=>EvP.ite (fun h=>?_) (fun h=>EvP.ite (fun h=>?_) (fun h=>EvP.ret ?_)))))
 ·refine EvP.fK rfl (gD hb (by omega) (by omega) fun u u0 u1 _=>?_)
  have:=u1 (by omega)
  refine EvP.yes u0 (EvP.yes (by simp;omega) (EvP.yes (by omega) (EvP.ret ⟨by dsimp only;omega,by dsimp only;omega,by dsimp only;rw [List.length_append,List.length_singleton];omega,by dsimp only;omega,hl⟩)))
 ·refine EvP.bind (KL b hb _ (by omega) (by omega)) fun s hs=>EvP.yes (by omega) (EvP.ret ⟨by dsimp only;omega,by dsimp only;omega,by dsimp only;omega,by dsimp only;rw [List.length_append,List.length_singleton];omega,fun t ht=>?_⟩)
  rcases List.mem_append.1 ht with ht|ht
  ·exact hl t ht
  ·rw [List.mem_singleton.1 ht]
   simp only [cSs,cS]
   omega
 ·exact EvP.ret ⟨by dsimp only;omega,by dsimp only;omega,by dsimp only;omega,by simp,fun t ht=>by cases ht⟩
 ·have hm:=RV r.2.1 (by omega)
  refine EvP.yes (by omega) (EvP.fK rfl (EvP.yes (by simp;omega) (EvP.ret ⟨by dsimp only;omega,by dsimp only;omega,by dsimp only;omega,by dsimp only;rw [List.length_append];simp;omega,fun t ht=>?_⟩)))
  rcases List.mem_append.1 ht with ht|ht
  ·exact hl t ht
  ·simp only [List.mem_cons,List.not_mem_nil,or_false,or_self] at ht
   rw [ht]
   exact hl _ hm
 ·have hm:=RV r.2.1 (by omega)
  have hc:=r4 _ hm
  have hlen:=gG (fV r.2.1 0)
  refine EvP.yes (by omega) (EvP.yes (by omega) (EvP.ret ⟨by dsimp only;omega,by dsimp only;omega,by dsimp only;omega,by dsimp only;rw [List.length_set];omega,fun t ht=>?_⟩))
  rcases List.mem_or_eq_of_mem_set ht with ht|rfl
  ·exact hl t ht
  ·rw [rZ]
   simp only [cSs,cS]
   omega
 ·exact ⟨by dsimp only;omega,by dsimp only;omega,by dsimp only;omega,by dsimp only;omega,hl⟩
def wd:List (List UInt8)→Nat
 |[]=>0
 |t :: L=>t.length + 1 + wd L
theorem pK:∀ L M:List (List UInt8),wd (L ++ M)=wd L + wd M
 |[],M=>by simp [wd]
 |t :: L,M=>by rw [List.cons_append,wd,wd,pK L M];omega
theorem SG:∀ L:List (List UInt8),L≠[]→(gZ L).length + 1=wd L
 |[],h=>absurd rfl h
 |[x],_=>by simp [gZ,wd]
 |x :: y :: r,_=>by
  have:=SG (y :: r) (by simp)
  rw [oI x (by simp),List.length_append,List.length_cons,wd]
  omega
theorem aBb (L:List (List UInt8)) (b:Bool):wd (tC L b)=wd L + (if b=true then 4 else 0):=by
 cases b with
 |false=>rfl
 |true=>
  unfold tC
  rw [if_pos rfl,if_pos rfl,wd,pK]
  show 1 + 1 + (wd L + (1 + 1 + 0))=_
  omega
theorem aGu (op:Int) (a b:X):wd (X.bin op a b).toks=wd a.toks + (if decide (a.lev < lev op)=true then 4 else 0) + ((opB op).length + 1) + (wd b.toks + (if decide (b.lev≤lev op)=true then 4 else 0)):=by
 rw [X.toks,pK,wd,aBb,aBb]
 omega
theorem WQ (l:List ST):wd (nK l)=wd (sTs l) + 4:=by
 unfold nK
 rw [wd,pK]
 show 1 + 1 + (_ + (1 + 1 + 0))=_
 omega
theorem SH (t:ST) (l:List ST):wd (sTs (t :: l))=wd (sT t) + wd (sTs l):=by rw [sTs,pK]
theorem AQ (l:List Int) (hl:l.length≤140737488351232) (hw:∀ x ∈ l,(Lit.int .u8 x).wf=true):EvP (fun k=>eX.f k l) (fun r=>r.1.length≤4∧r.2.length≤6∧∀ t ∈ r.2,cSs t≤40):=by
 obtain ⟨b,hb0,hb⟩:=WC l hl hw
 unfold eX.f
 exact EvP.fK hb0 (EvP.bind (RI b hb _ (by dsimp only;omega) (by dsimp only;omega)) fun r hr=>EvP.ret hr.2.2)
theorem Tok.head {t:List UInt8} (h:Tok t):∃ c q,t=c :: q∧c≠32∧c≠10:=by
 cases h with
 |dig c q h=>
  have:=h c (by simp)
  refine ⟨c,q,rfl,fun e=>?_,fun e=>?_⟩ <;> subst e <;> revert this <;> decide
 |let_ c q h=>
  have:=h c (by simp)
  refine ⟨c,q,rfl,fun e=>?_,fun e=>?_⟩ <;> subst e <;> revert this <;> decide
 |sym t h=>
  simp only [syms,List.mem_cons,List.not_mem_nil,or_false] at h
  rcases h with h|h|h|h|h|h|h|h|h|h|h|h|h|h|h|h|h|h <;> subst h <;> exact ⟨_,_,rfl,by decide,by decide⟩
theorem wQ {s:List UInt8} {p:Nat} {c:UInt8} {q:List UInt8} (h:s.drop p=c :: q):∃ hp:p < s.length,s[p]=c:=by
 have hp:p < s.length:=by
  rcases Nat.lt_or_ge p s.length with h1|h1
  ·exact h1
  ·rw [List.drop_eq_nil_of_le h1] at h
   cases h
 refine ⟨hp,?_⟩
 rw [List.drop_eq_getElem_cons hp] at h
 exact (List.cons.inj h).1
theorem EB (s:List UInt8) (hs:s.length≤20000):∀ (R:List (List UInt8)) (p:Nat) (acc:List ByteArray),(∀ t ∈ R,Tok t)→p≤s.length→s.drop p=gZ R→acc.length≤p→
    EvP (fun k=>bX.l0 k (ba s) acc (p:Int)) (·=(acc ++ R.map ba,true))
  |[],p,acc,ht,hp,hd,ha=>by
    have hp2:p=s.length:=by
      have:=congrArg List.length hd
      rw [List.length_drop] at this
      simp only [gZ,List.length_nil] at this
      omega
    refine EvP.step (fun k=>bX.l0.eq_2 (k:=k) ..) (EvP.no (by rw [kL];omega) (EvP.ret ?_))
    simp
  |t :: R,p,acc,ht,hp,hd,ha=>by
    obtain ⟨c,q,rfl,j3,j4⟩:=(ht t (by simp)).head
    have htok:=ht (c :: q) (by simp)
    obtain ⟨rest,hrest,hjo⟩:∃ rest,Rest rest∧gZ ((c :: q) :: R)=(c :: q) ++ rest:=by
      cases R with
      |nil=>exact ⟨[], .inl rfl,by simp [gZ]⟩
      |cons y r=>exact ⟨32 :: gZ (y :: r), .inr ⟨_,rfl⟩,rfl⟩
    have hd2:s.drop p=c :: (q ++ rest):=by rw [hd,hjo];rfl
    obtain ⟨hlt,hc⟩:=wQ hd2
    have hlen:p + (c :: q).length + rest.length=s.length:=by
      have:=congrArg List.length hd2
      rw [List.length_drop] at this
      simp only [List.length_cons,List.length_append] at this ⊢
      omega
    refine EvP.step (fun k=>bX.l0.eq_2 (k:=k) ..) (EvP.yes (by rw [kL];omega) (EvP.yes (by omega) ?_))
    rw [MZ s p hlt,hc]
    have n32:¬ ((c.toNat:Int)=32):=fun e=>j3 (UInt8.toNat_inj.1 (by show c.toNat=32;omega))
    have n10:((c.toNat:Int) == 10)=false:=beq_eq_false_iff_ne.mpr (fun e=>j4 (UInt8.toNat_inj.1 (by show c.toNat=10;omega)))
    refine EvP.no n32 ?_
    rw [n10]
    refine EvP.step (fun k=>bX.j1.eq_2 (k:=k) ..) (EvP.no Bool.false_ne_true (EvP.yes (by omega) (EvP.yes (by rw [kL];omega) ?_)))
    have hex:(ba s).extract ((p:Int)).toNat (ba s).size=ba ((c :: q) ++ rest):=by
      rw [BD,kL,Int.toNat_natCast,List.take_of_length_le (Nat.le_refl _),hd2]
      rfl
    rw [hex]
    refine EvP.dO (xW (c :: q) rest (by rw [List.length_append];omega) htok hrest) ?_
    have hq:0 < (c :: q).length:=by simp
    refine EvP.no (by omega) ?_
    rw [w64 (by omega) (by omega)]
    refine EvP.yes (by omega) (EvP.yes (by rw [kL];omega) (EvP.yes (by omega) ?_))
    have hex2:(ba s).extract ((p:Int)).toNat (((p:Int) + ((c :: q).length:Int)):Int).toNat=ba (c :: q):=by
      rw [BD,Int.toNat_natCast,show (((p:Int) + ((c :: q).length:Int)):Int).toNat=p + (c :: q).length by omega,List.drop_take,hd2,show p + (c :: q).length - p=(c :: q).length by omega]
      rw [← List.cons_append,List.take_left]
    rw [hex2,show (p:Int) + ((c :: q).length:Int)=((p + (c :: q).length:Nat):Int) by omega]
    have hd3:s.drop (p + (c :: q).length)=rest:=by
      rw [← List.drop_drop,hd2,← List.cons_append,List.drop_left]
    cases R with
    |nil=>
      have hr:rest=[]:=by
        have:=congrArg List.length hjo
        simp only [gZ,List.length_append] at this
        exact List.eq_nil_of_length_eq_zero (by omega)
      refine (EB s hs [] (p + (c :: q).length) (acc ++ [ba (c :: q)]) (fun _ h=>by cases h) (by omega) (by rw [hd3,hr];rfl) (by rw [List.length_append];show _ + 1≤_;omega)).mono (fun a ha=>?_)
      rw [ha]
      simp
    |cons y r=>
      have hr:rest=32 :: gZ (y :: r):=List.append_cancel_left (hjo.symm.trans rfl)
      have hd4:s.drop (p + (c :: q).length)=32 :: gZ (y :: r):=by rw [hd3,hr]
      obtain ⟨hlt2,hc2⟩:=wQ hd4
      refine EvP.step (fun k=>bX.l0.eq_2 (k:=k) ..) (EvP.yes (by rw [kL];omega) (EvP.yes (by omega) ?_))
      rw [MZ s _ hlt2,hc2]
      refine EvP.yes rfl (EvP.step (fun k=>bX.j1.eq_2 (k:=k) ..) (EvP.yes rfl ?_))
      rw [w64 (by omega) (by omega),show ((p + (c :: q).length:Nat):Int) + 1=((p + (c :: q).length + 1:Nat):Int) by omega]
      refine (EB s hs (y :: r) (p + (c :: q).length + 1) (acc ++ [ba (c :: q)]) (fun t h=>ht t (by simp only [List.mem_cons] at h ⊢;exact .inr h)) (by omega) ?_ (by rw [List.length_append];show _ + 1≤_;omega)).mono (fun a ha=>?_)
      · rw [← List.drop_drop,hd4]
        rfl
      · rw [ha]
        simp
theorem KE (L:List (List UInt8)) (ht:∀ t ∈ L,Tok t) (hl:(gZ L).length≤20000):EvP (fun k=>bX.f k (ba (gZ L))) (·=(L.map ba,true)):=by
  unfold bX.f
  refine EvP.no (by rw [kL];omega) ?_
  exact (EB (gZ L) hl L 0 [] ht (by omega) rfl (by simp)).mono (fun a ha=>by rw [ha];rfl)
def X.isB:X→Nat
 | .bin _ _ _=>1
 | _=>0
theorem LC:∀ x:X,x.ok→2 * wd x.toks + 8 * x.isB + 1≤13 * x.size
 | .num n,h=>by
  have h:0≤n∧n≤99999:=h
  have:=vC h.1 h.2
  show 2 * ((dec n).length + 1 + 0) + 8 * 0 + 1≤13 * 1
  omega
 | .var v,h=>by
  show 2 * (1 + 1 + 0) + 8 * 0 + 1≤13 * 1
  omega
 | .bin op a b,h=>by
  have ha:=LC a h.2.1
  have hb:=LC b h.2.2
  have ho:=aAp h.1
  have hr:=EK h.1
  have wa:(if decide (a.lev < lev op)=true then 4 else 0)≤4 * a.isB:=by
   cases a with
   |bin _ _ _=>show _≤4 * 1;split <;> omega
   |num _=>rw [if_neg (by rw [decide_eq_false (by show ¬ (9:Int) < lev op;omega)];exact Bool.false_ne_true)];exact Nat.zero_le _
   |var _=>rw [if_neg (by rw [decide_eq_false (by show ¬ (9:Int) < lev op;omega)];exact Bool.false_ne_true)];exact Nat.zero_le _
  have wb:(if decide (b.lev≤lev op)=true then 4 else 0)≤4 * b.isB:=by
   cases b with
   |bin _ _ _=>show _≤4 * 1;split <;> omega
   |num _=>rw [if_neg (by rw [decide_eq_false (by show ¬ (9:Int)≤lev op;omega)];exact Bool.false_ne_true)];exact Nat.zero_le _
   |var _=>rw [if_neg (by rw [decide_eq_false (by show ¬ (9:Int)≤lev op;omega)];exact Bool.false_ne_true)];exact Nat.zero_le _
  rw [aGu]
  show _ + 8 * 1 + 1≤13 * (a.size + b.size + 1)
  omega
theorem aDt (x:X) (h:x.ok) (hd:x.depth≤5):wd x.toks≤201:=by
 have h1:=LC x h
 have h2:=aAt x hd
 omega
theorem WO (l:List ST) (h:∀ y ∈ l,wd (sT y)≤230 * cT [y]):wd (sTs l)≤230 * cT l:=by
 induction l with
 |nil=>rw [sTs];exact Nat.zero_le _
 |cons y r ih=>
  have h1:=h y (by simp)
  have h2:=ih (fun z hz=>h z (by simp [hz]))
  rw [sD] at h1
  rw [SH,yF]
  omega
theorem wdS {boxes:Int} (hbx:boxes≤3) (t:ST):VS boxes t→wd (sT t)≤230 * cT [t]:=
 KG (P:=fun t=>VS boxes t→wd (sT t)≤230 * cT [t]) (fun t hb he hv=>by
  have gb:=WO t.b (fun y hy=>hb y hy (hv.b y hy))
  have ge:=WO t.e (fun y hy=>he y hy (hv.e y hy))
  have gx:=aDt t.x hv.ok hv.dp
  have eb:=WQ t.b
  have ee:=WQ t.e
  have w1:wIf.length=2:=rfl
  have w2:LA.length=4:=rfl
  have w3:BZ.length=5:=rfl
  have w4:GH.length=4:=rfl
  have w5:LB.length=4:=rfl
  have w6:CB.length=5:=rfl
  have w7:xZ.length=5:=rfl
  have v1:(yU t.va).length=1:=rfl
  have s1:([59]:List UInt8).length=1:=rfl
  have s2:([61]:List UInt8).length=1:=rfl
  rw [sD]
  rcases NS hv with hk|hk|hk|hk|hk|hk|hk
  ·rw [aEy hk]
   simp only [pK,wd]
   omega
  ·by_cases c:t.e.length=0
   ·rw [aAr hk c,wd,pK]
    omega
   ·rw [aAs hk c,pK,wd,wd,pK]
    omega
  ·rw [aEz hk,wd,pK]
   omega
  ·have h1:=xX hbx hv (.inl hk)
   have:=vC h1.1 (by omega)
   rw [aFa hk]
   simp only [pK,wd]
   omega
  ·have h1:=xX hbx hv (.inr hk)
   have:=vC h1.1 (by omega)
   rw [aFb hk]
   simp only [wd]
   omega
  ·rw [aFc hk]
   simp only [wd]
   omega
  ·rw [aFd hk]
   simp only [pK,wd]
   omega) t
theorem NT:∀ rs:List Int,(∀ r ∈ rs,1≤r∧r≤4)→wd (nX rs)≤12 * rs.length
 |[],_=>Nat.le_refl _
 |r :: rs,h=>by
  have h1:=h r (by simp)
  have h2:=NT rs (fun x hx=>h x (by simp [hx]))
  have h3:=vC (n:=r) (by omega) (by omega)
  rw [nX,pK,List.length_cons]
  show 3 + 1 + ((dec r).length + 1 + (1 + 1 + 0)) + _≤_
  omega
theorem NU {boxes:Int} (hbx:boxes≤3):∀ ms:List (List ST),(∀ m ∈ ms,(∀ t ∈ m,VS boxes t)∧cT m≤16)→wd (lY ms)≤3700 * ms.length
 |[],_=>Nat.le_refl _
 |m :: ms,h=>by
  have h1:=WO m (fun y hy=>wdS hbx y ((h m (by simp)).1 y hy))
  have h2:=(h m (by simp)).2
  have h3:=NU hbx ms (fun x hx=>h x (by simp [hx]))
  rw [lY,pK,wd,WQ,List.length_cons]
  show 4 + 1 + _ + _≤_
  omega
theorem WK {rs:List Int} {ms:List (List ST)} (h:VP rs ms):(gZ (pT rs ms)).length≤20000:=by
 have w1:=SG _ (aFp h)
 have h1:=NT rs h.rooms
 have h2:=NU (boxes:=(rs.length:Int)) (by have:=h.nr;omega) ms h.vs
 have:=h.nr
 have:=h.nm
 unfold pT at w1 ⊢
 rw [pK] at w1
 omega
theorem vW (L:List (List UInt8)) (hn:L.length≤1000000) (w:List UInt8):∀ (d j n:Nat),j + d=L.length→n≤j→EvP (fun k=>bG.l0 k (L.map ba) (ba w) (n:Int) (j:Int)) (·=((n + (L.drop j).count w:Nat):Int))
  |0,j,n,h,hm=>by
    refine EvP.step (fun k=>bG.l0.eq_2 (k:=k) ..) (EvP.no (by rw [List.length_map];omega) (EvP.ret ?_))
    rw [List.drop_eq_nil_of_le (by omega)]
    rfl
  |d + 1,j,n,h,hm=>by
    have hj:j < L.length:=by omega
    refine EvP.step (fun k=>bG.l0.eq_2 (k:=k) ..) (EvP.yes (by rw [List.length_map];omega) (EvP.yes (by omega) ?_))
    rw [rdB L j hj,pR,pR,List.drop_eq_getElem_cons hj,w64 (n:=(j:Int) + 1) (by omega) (by omega),show (j:Int) + 1=((j + 1:Nat):Int) by omega]
    refine EvP.ite (fun hc=>?_) (fun hc=>?_)
    · rw [w64 (by omega) (by omega),show (n:Int) + 1=((n + 1:Nat):Int) by omega]
      refine (vW L hn w d (j + 1) (n + 1) (by omega) (by omega)).mono (fun a ha=>?_)
      rw [ha,hc,List.count_cons_self]
      congr 1
      omega
    · refine (vW L hn w d (j + 1) n (by omega) (by omega)).mono (fun a ha=>?_)
      rw [ha,List.count_cons_of_ne hc]
theorem OO (L:List (List UInt8)) (hn:L.length≤1000000) (w:List UInt8):EvP (fun k=>bG.f k (L.map ba) (ba w)) (·=(L.count w:Int)):=
  (vW L hn w L.length 0 0 (by omega) (by omega)).mono (fun a ha=>by rw [ha,List.drop_zero,Nat.zero_add])
def NX (w:List UInt8):Prop:=(∃ c q,w=c :: q∧isD c=false)∧(∀ v,0≤v→v < 4→yU v≠w)∧(∀ op,1≤op→op≤12→opB op≠w)∧w≠[40]∧w≠[41]
theorem TB {w:List UInt8} (h:∃ c q,w=c :: q∧isD c=false) (n:Int):dec n≠w:=by
 obtain ⟨c,q,rfl,hc⟩:=h
 intro e
 have:=yZ n.toNat c (by
  have e2:Lib.decDigits n.toNat=c :: q:=e
  rw [e2]
  exact List.mem_cons_self)
 rw [this] at hc
 cases hc
theorem LJ {w:List UInt8} (h:NX w) (L:List (List UInt8)) (b:Bool):(tC L b).count w=L.count w:=by
 obtain ⟨_,_,_,h4,h5⟩:=h
 unfold tC
 split
 ·rw [List.count_cons_of_ne (fun e=>h4 e.symm),List.count_append,List.count_cons_of_ne (fun e=>h5 e.symm)]
  simp
 ·rfl
theorem BU {w:List UInt8} (h:NX w):∀ x:X,x.ok→x.toks.count w=0
 | .num n,_=>by rw [X.toks,List.count_cons_of_ne (TB h.1 n)];rfl
 | .var v,hv=>by rw [X.toks,List.count_cons_of_ne (h.2.1 v hv.1 hv.2)];rfl
 | .bin op a b,ho=>by
  rw [X.toks,List.count_append,LJ h,BU h a ho.2.1,List.count_cons_of_ne (h.2.2.1 op ho.1.1 ho.1.2),LJ h,BU h b ho.2.2]
theorem aAo {w:List UInt8} (h1:∃ c q,w=c :: q∧isD c=false) (h2:∀ v ∈ [0,1,2,3],yU v≠w) (h3:∀ op ∈ [1,2,3,4,5,6,7,8,9,10,11,12],opB op≠w) (h4:w≠[40]) (h5:w≠[41]):NX w:=by
 refine ⟨h1,fun v v0 v1=>h2 v ?_,fun op o1 o2=>h3 op ?_,h4,h5⟩
 ·have:v=0∨v=1∨v=2∨v=3:=by omega
  simpa using this
 ·have:=KR ⟨o1,o2⟩
  simpa using this
theorem aDd:NX rW:=aAo ⟨_,_,rfl,by decide⟩ (by decide) (by decide) (by decide) (by decide)
theorem aFo:NX BX:=aAo ⟨_,_,rfl,by decide⟩ (by decide) (by decide) (by decide) (by decide)
theorem aDb:NX [123]:=aAo ⟨_,_,rfl,by decide⟩ (by decide) (by decide) (by decide) (by decide)
theorem aDc:NX [125]:=aAo ⟨_,_,rfl,by decide⟩ (by decide) (by decide) (by decide) (by decide)
def qT (w u:List UInt8):Nat:=if u == w then 1 else 0
theorem oK (w:List UInt8) (l:List ST):(nK l).count w=qT w [123] + (sTs l).count w + qT w [125]:=by
 unfold nK qT
 rw [List.count_cons,List.count_append,List.count_cons,List.count_nil]
 omega
theorem KU {boxes:Int} {w:List UInt8} (h:NX w) (he:([61] == w)=false) (hs:([59] == w)=false) (t:ST) (hv:VS boxes t):(sT t).count w=
  if t.kd=2 then qT w wIf + (nK t.b).count w + (if t.e.length=0 then 0 else qT w LA + (nK t.e).count w)
  else if t.kd=3 then qT w BZ + (nK t.b).count w
  else if t.kd=4 then qT w GH
  else if t.kd=5 then qT w LB
  else if t.kd=6 then qT w CB
  else if t.kd=7 then qT w xZ
  else 0:=by
 have hx:=BU h t.x hv.ok
 have hd:∀ n,(dec n == w)=false:=fun n=>beq_eq_false_iff_ne.mpr (TB h.1 n)
 rcases NS hv with hk|hk|hk|hk|hk|hk|hk
 ·have hva:=xY hv (.inl hk)
  have hvw:(yU t.va == w)=false:=beq_eq_false_iff_ne.mpr (h.2.1 t.va hva.1 hva.2)
  rw [aEy hk,hk]
  simp [List.count_cons,hx,he,hs,hvw]
 ·by_cases c:t.e.length=0
  ·rw [aAr hk c,if_pos hk,if_pos c,List.count_cons,List.count_append,hx]
   unfold qT
   omega
  ·rw [aAs hk c,if_pos hk,if_neg c,List.count_append,List.count_cons,List.count_cons,List.count_append,hx]
   unfold qT
   omega
 ·rw [aEz hk,if_neg (by omega),if_pos hk,List.count_cons,List.count_append,hx]
  unfold qT
  omega
 ·rw [aFa hk,hk]
  simp [List.count_cons,hx,hs,hd,qT]
 ·have hva:=xY hv (.inr hk)
  have hvw:(yU t.va == w)=false:=beq_eq_false_iff_ne.mpr (h.2.1 t.va hva.1 hva.2)
  rw [aFb hk,hk]
  simp [List.count_cons,hs,hd,hvw,qT]
 ·rw [aFc hk,hk]
  simp [List.count_cons,hs,qT]
 ·rw [aFd hk,hk]
  simp [List.count_cons,hx,hs,qT]
theorem wB {w:List UInt8} (l:List ST) (h:∀ y ∈ l,(sT y).count w=0):(sTs l).count w=0:=by
 induction l with
 |nil=>rw [sTs];rfl
 |cons x r ih=>rw [sTs,List.count_append,h x (by simp),ih (fun y hy=>h y (by simp [hy]))]
theorem aAn {boxes:Int} {w:List UInt8} (h:NX w) (hq:∀ u ∈ [[61],[59],[123],[125],wIf,LA,BZ,GH,LB,CB,xZ],(u == w)=false) (t:ST):VS boxes t→(sT t).count w=0:=
 KG (P:=fun t=>VS boxes t→(sT t).count w=0) (fun t hb he hv=>by
  have gb:=wB t.b (fun y hy=>hb y hy (hv.b y hy))
  have ge:=wB t.e (fun y hy=>he y hy (hv.e y hy))
  simp only [List.mem_cons,List.not_mem_nil,or_false,forall_eq_or_imp,forall_eq] at hq
  obtain ⟨q1,q2,q3,q4,q5,q6,q7,q8,q9,j3,j4⟩:=hq
  rw [KU h q1 q2 t hv,oK,oK,gb,ge]
  unfold qT
  rw [q3,q4,q5,q6,q7,q8,q9,j3,j4]
  simp) t
theorem IX (l:List ST) (h:∀ y ∈ l,(sT y).count [123]=(sT y).count [125]):(sTs l).count [123]=(sTs l).count [125]:=by
 induction l with
 |nil=>rw [sTs];rfl
 |cons x r ih=>rw [sTs,List.count_append,List.count_append,h x (by simp),ih (fun y hy=>h y (by simp [hy]))]
theorem aEm {boxes:Int} (t:ST):VS boxes t→(sT t).count [123]=(sT t).count [125]:=
 KG (P:=fun t=>VS boxes t→(sT t).count [123]=(sT t).count [125]) (fun t hb he hv=>by
  have gb:=IX t.b (fun y hy=>hb y hy (hv.b y hy))
  have ge:=IX t.e (fun y hy=>he y hy (hv.e y hy))
  rw [KU aDb (by decide) (by decide) t hv,KU aDc (by decide) (by decide) t hv,oK,oK,oK,oK,gb,ge]
  have z:∀ u ∈ [wIf,LA,BZ,GH,LB,CB,xZ],qT [123] u=qT [125] u:=by decide
  simp only [List.mem_cons,List.not_mem_nil,or_false,forall_eq_or_imp,forall_eq] at z
  obtain ⟨z1,z2,z3,z4,z5,z6,z7⟩:=z
  have y1:qT [123] [123]=1:=by decide
  have y2:qT [123] [125]=0:=by decide
  have y3:qT [125] [123]=0:=by decide
  have y4:qT [125] [125]=1:=by decide
  rw [z1,z2,z3,z4,z5,z6,z7,y1,y2,y3,y4]
  simp only [Nat.add_comm 1,Nat.zero_add,Nat.add_zero]) t
theorem sV {w:List UInt8} (h:NX w) (hs:([59] == w)=false):∀ rs:List Int,(nX rs).count w=qT w BX * rs.length
 |[]=>by simp [nX]
 |r :: rs=>by
  have hd:(dec r == w)=false:=beq_eq_false_iff_ne.mpr (TB h.1 r)
  rw [nX,List.count_append,sV h hs rs,List.length_cons,Nat.mul_add]
  unfold RY
  simp [List.count_cons,hd,hs,qT]
  omega
theorem xV (w:List UInt8):∀ (ms:List (List ST)),(∀ m ∈ ms,(sTs m).count w=0)→(lY ms).count w=(qT w rW + qT w [123] + qT w [125]) * ms.length
 |[],_=>by simp [lY]
 |m :: ms,h=>by
  have ih:=xV w ms (fun x hx=>h x (by simp [hx]))
  rw [lY,List.count_append,List.count_cons,oK,h m (by simp),ih,List.length_cons,Nat.mul_add]
  unfold qT
  omega
theorem KX:∀ (ms:List (List ST)),(∀ m ∈ ms,(sTs m).count [123]=(sTs m).count [125])→(lY ms).count [123]=(lY ms).count [125]
 |[],_=>by simp [lY]
 |m :: ms,h=>by
  have ih:=KX ms (fun x hx=>h x (by simp [hx]))
  have hm:=h m (by simp)
  rw [lY,List.count_append,List.count_append,List.count_cons,List.count_cons,oK,oK,hm,ih]
  have y1:qT [123] [123]=1:=by decide
  have y2:qT [123] [125]=0:=by decide
  have y3:qT [125] [123]=0:=by decide
  have y4:qT [125] [125]=1:=by decide
  have y5:(rW == [123])=false:=by decide
  have y6:(rW == [125])=false:=by decide
  rw [y1,y2,y3,y4,y5,y6]
  simp only [Bool.false_eq_true,if_false]
  omega
theorem parts {rs:List Int} {ms:List (List ST)} (h:VP rs ms):(pT rs ms).count rW=ms.length∧(pT rs ms).count BX=rs.length∧(pT rs ms).count [123]=(pT rs ms).count [125]:=by
 have t0:∀ m ∈ ms,(sTs m).count rW=0:=fun m hm=>wB m (fun y hy=>aAn aDd (by decide) y ((h.vs m hm).1 y hy))
 have b0:∀ m ∈ ms,(sTs m).count BX=0:=fun m hm=>wB m (fun y hy=>aAn aFo (by decide) y ((h.vs m hm).1 y hy))
 have e0:∀ m ∈ ms,(sTs m).count [123]=(sTs m).count [125]:=fun m hm=>IX m (fun y hy=>aEm y ((h.vs m hm).1 y hy))
 unfold pT
 refine ⟨?_,?_,?_⟩
 ·rw [List.count_append,sV aDd (by decide),xV rW ms t0,show qT rW BX=0 by decide,show qT rW rW + qT rW [123] + qT rW [125]=1 by decide]
  omega
 ·rw [List.count_append,sV aFo (by decide),xV BX ms b0,show qT BX BX=1 by decide,show qT BX rW + qT BX [123] + qT BX [125]=0 by decide]
  omega
 ·rw [List.count_append,List.count_append,sV aDb (by decide),sV aDc (by decide),KX ms e0,show qT [123] BX=0 by decide,show qT [125] BX=0 by decide]
end Go.Proofs.YtjamfkpgmkhbnaaGreatDoor.PA

namespace Go.Proofs.YtjamfkpgmkhbnaaGreatDoor.Pure
open Go.RowKit Go.Proofs.YtjamfkpgmkhbnaaGreatDoor.PA Go.Proofs.YtjamfkpgmkhbnaaGreatDoorW.PrintWords Go.Proofs.YtjamfkpgmkhbnaaGreatDoorW.PrintLast Go.Proofs.YtjamfkpgmkhbnaaGreatDoorW.PrintMore Go.Proofs.YtjamfkpgmkhbnaaGreatDoor.Core
theorem FnSourceParts:bZ.Pure:=by
 intro l _ hl hw
 refine EvP.ends (r:=true) ?_
 unfold bZ.f
 refine EvP.ite (fun _=>EvP.ret rfl) (fun _=>?_)
 refine EvP.bind (AQ l (by omega) hw) fun r hr=>?_
 obtain ⟨rs,ts⟩:=r
 obtain ⟨h1,h2,h3⟩:=hr
 dsimp only at h1 h2 h3 ⊢
 have hs:AZ ts:=⟨by omega,fun t ht=>Nat.le_trans (h3 t ht) (by omega)⟩
 cases hp:mY rs ts with
 |false=>
  refine EvP.dO (yP (by omega) hs hp) (EvP.dO (yS (by omega) hs hp) (EvP.yes rfl ?_))
  exact EvP.step (fun k=>bZ.j0.eq_2 (k:=k) ..) (EvP.yes (by rw [toList_data];rfl) (EvP.ret (by simp)))
 |true=>
  obtain ⟨ms,e,hv,ha⟩:=aHo hp
  subst e
  have hlen:=xM hv
  obtain ⟨p1,p2,p3⟩:=parts hv
  refine EvP.dO (xI (by omega) hs hv hp) (EvP.dO (xS (by omega) hs hv hp) (EvP.yes rfl ?_))
  have hne:gZ (pT rs ms)≠[]:=aCt (aFp hv) (fun t ht=>(CV hv t ht).1)
  refine EvP.step (fun k=>bZ.j0.eq_2 (k:=k) ..) (EvP.no (by rw [pR];simpa using hne) ?_)
  have ct:=fun w=>OO (pT rs ms) (by omega) w
  refine EvP.dO (KE _ (fun t ht=>(CV hv t ht).1) (WK hv)) (EvP.yes rfl (EvP.dO (ct rW) (EvP.yes (by rw [p1,List.length_map]) (EvP.dO (ct BX) (EvP.yes (by rw [p2]) (EvP.dO (ct [123]) (EvP.dO (ct [125]) (EvP.ret ?_))))))))
  rw [p3]
  exact beq_self_eq_true _
end Go.Proofs.YtjamfkpgmkhbnaaGreatDoor.Pure

namespace Go.Proofs.YtjamfkpgmkhbnaaGreatDoor.LaidT
open Go.ChangeShapes Go.WideShapes Go.ChangeAt Go.RowKit Go.Proofs.YtjamfkpgmkhbnaaGreatDoor
set_option linter.unusedVariables false
abbrev NG:List (String × DataW Unit):=[("math/bits.deBruijn32tab",Rows.laid_math_bits_deBruijn32tab),("math/bits.deBruijn64tab",Rows.laid_math_bits_deBruijn64tab),("internal/strconv.uint64pow10",Rows.laid_internal_strconv_uint64pow10),("loop.example/cothreads/impl.opTexts",Rows.laid_loop_example_cothreads_impl_opTexts)]
theorem LV {H:Type} {enc:TypeId × Value→H} {P:Program} {w:World} {base:Nat} {sp:Nat→Bool} {held:Bool} {fuel:Nat} {t e:TypeId} {n:Nat} {cs:List Value} {bs:List (List UInt8)} {p:List MemPlace}
    (ht:P.underlying t=some (.array n e)) (he:P.underlying e=some .string) (hce:P.cellsOf e=1) (hct:P.cellsOf t=n)
    (h:DataW.trod enc P w base sp held fuel t cs=some (.agg (bs.map fun b=> .lit (.string b)),p)):cs=bs.map fun b=>Value.string ⟨b.toArray⟩:=by
  cases fuel with
  |zero=>simp [DataW.trod] at h
  |succ fuel=>
    simp only [DataW.trod,ht,hce,hct,Nat.mul_one] at h
    split at h
    · rename_i hl
      obtain ⟨xs,hm,hx⟩:=Option.map_eq_some_iff.1 h
      have hxs:xs.map (·.1)=bs.map fun b=>(DataW.lit (.string b):DataW H):=by
        have:=congrArg Prod.fst hx
        simpa using this
      have hxl:xs.length=n:=by simpa using Lib.mapM_length hm
      have hzl:bs.length=n:=by
        have:=congrArg List.length hxs
        simp at this
        omega
      apply List.ext_getElem?
      intro i
      by_cases hi:i < n
      · obtain ⟨b,hb,hf⟩:=Lib.mapM_at hm i i (by simp [hi])
        obtain ⟨s,hc,rfl,_⟩:=DataW.trod_string he hf
        have h1:cs[i]?=some (.string s):=by
          have:=congrArg (·[0]?) hc
          simpa [List.getElem?_take,List.getElem?_drop] using this
        have h2:(xs.map (·.1))[i]?=some (DataW.lit (.string s.data.toList):DataW H):=by simp [hb]
        rw [hxs] at h2
        simp only [List.getElem?_map,Option.map_eq_some_iff,DataW.lit.injEq,Lit.string.injEq] at h2
        obtain ⟨z',hz',e'⟩:=h2
        rw [h1,List.getElem?_map,hz',e']
        rfl
      · rw [List.getElem?_eq_none (by omega),List.getElem?_eq_none (by simp;omega)]
    · cases h
theorem OW {P:Program} {W:World} {name:String} {bs:List (List UInt8)} {rest:List (String × DataW Unit)} {g:Nat} {t e:TypeId} {n:Nat}
    (hg:P.globalNamed name=some g) (hty:(P.globals[g]?).map (·.type)=some t) (ht:P.underlying t=some (.array n e)) (he:P.underlying e=some .string) (hce:P.cellsOf e=1) (hct:P.cellsOf t=n)
    (h:laidMet P ((name, .agg (bs.map fun b=> .lit (.string b))) :: rest) W):W.var? P name=some (bs.map fun b=>Value.string ⟨b.toArray⟩).toArray:=by
  obtain ⟨ps,⟨g',t',cs,fuel,p,q,hg',ht',hvar,hd,_,_⟩,_⟩:=h
  obtain rfl:=Option.some.inj (hg.symm.trans hg')
  obtain rfl:=Option.some.inj (hty.symm.trans ht')
  rw [hvar,← LV ht he hce hct hd]
theorem aCo (os:Os) (args:Array Value):laidMetH Tryz.prog NG ((World.doorLaid Tryz.prog 29 os).forCall (fun _ _=>0) ⟨#[],args,[]⟩).memory:=
 laidMetH_of_parts3 (fuel:=8) (laidMet_of_run' 8 (by kernel_rfl) (by kernel_rfl)) (by kernel_rfl) (by kernel_rfl)
theorem aHn {W:World} (h0:laidMetH Tryz.prog NG W):PA.Tab W:=by
 have h:laidMet Tryz.prog NG W:=by rwa [MakeChecks.laidMetH_plain _ _ _ (by kernel_rfl)] at h0
 exact ⟨Lib.tabIs_of_head (g:=0) (t:=140) (e:=121) (n:=20) (by kernel_rfl) (by kernel_rfl) (by kernel_rfl) (by kernel_rfl) (by kernel_rfl) (by kernel_rfl) (laidMet.tail (laidMet.tail h)),
  (OW (g:=1) (t:=146) (e:=9) (n:=12) (bs:=[[124],[94],[38],[61,61],[60],[60,60],[62,62],[43],[45],[42],[47],[37]]) (by kernel_rfl) (by kernel_rfl) (by kernel_rfl) (by kernel_rfl) (by kernel_rfl) (by kernel_rfl) (laidMet.tail (laidMet.tail (laidMet.tail h)))).trans (by kernel_rfl)⟩
theorem vR {P:Program} {w w':World} {nm:String} {a:Array Value} (h:w.var? P nm=some a) (hb:Below w.heap.size w w'):w'.var? P nm=some a:=PA.vR h hb
theorem laidOut:laidOutB Tryz.prog=true:=by kernel_rfl
theorem var_stays {H:Type} {enc:TypeId × Value→H} {W W':World} {cs:Array Value} {d:DataW H} {p:List MemPlace} (hv:W.var? Tryz.prog "loop.example/cothreads/impl.opTexts" =some cs)
  (hd:∃ fuel,DataW.trod enc Tryz.prog W 0 (fun _=>true) true fuel 146 cs.toList=some (d,p)) (hb:Below W.heap.size W W'):
  ∃ p',DataW.TrodVars enc Tryz.prog W' (fun b=>decide (b < W.heap.size)) ["loop.example/cothreads/impl.opTexts"] [d] p':=by
 obtain ⟨fuel,hd⟩:=hd
 have hT:DataW.Trod enc Tryz.prog W 0 (fun _=>true) true 146 (.agg cs) d p:=⟨fuel,hd⟩
 obtain ⟨fuel',h2⟩:=Below.trod laidOut (by kernel_rfl) (of_decide_eq_true (by kernel_rfl)) hT hb (DataW.trod_lt fuel _ _ _ hd)
 exact ⟨_,trodVars_mk1 (g:=1) (t:=146) (by kernel_rfl) (by kernel_rfl) (PA.vR hv hb) h2⟩
end Go.Proofs.YtjamfkpgmkhbnaaGreatDoor.LaidT

