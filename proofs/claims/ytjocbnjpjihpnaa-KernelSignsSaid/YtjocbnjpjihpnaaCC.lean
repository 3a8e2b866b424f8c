/- What the functions answer, over plain numbers. -/
import Derived.Laws.BitsLemmas
import Derived.Test.YtjocbnjpjihpnaaWWa
import Derived.Test.YtjocbnjpjihpnaaBB
import Derived.Test.YtjocbnjpjihpnaaFgradinelaw14same
namespace Go.Proofs.Ytjocbnjpjihpnaa.M
open Go.RowKit Go.Proofs.Ytjocbnjpjihpnaa.P Go.Proofs.YtjocbnjpjihpnaaW.PrintWords Go.Proofs.YtjocbnjpjihpnaaW.PrintLast Go.Proofs.YtjocbnjpjihpnaaW.PrintMore
set_option linter.unusedVariables false

theorem wu (n:Int):IntKind.u64.wrap n=n%18446744073709551616:=by simp [IntKind.wrap,IntKind.bits,IntKind.signed]
theorem wu_id {n:Int} (h0:0≤n) (h1:n<18446744073709551616):IntKind.u64.wrap n=n:=by rw [wu];omega
theorem w64_id {n:Int} (h0 : -9223372036854775808≤n) (h1:n≤9223372036854775807):wrap64 n=n:=by unfold wrap64;omega
theorem wu_fits : ∀ n:Int,0≤n→n<2^64→IntKind.u64.wrap n=n:=fun n h0 h1=>wu_id h0 (by omega)
theorem wf_u64 {x:Int} (h:(Lit.int .u64 x).wf=true):0≤x∧x<18446744073709551616:=by
 simp [Lit.wf,Go.IntKind.min,IntKind.max,IntKind.bits,IntKind.signed] at h
 omega
theorem and_mask (i:Nat) (hi:i≤64) (x:Int) (h0:0≤x) (h1:x<18446744073709551616):Go.bits .and .u64 x (2^i-1)=x%2^i :=
 bits_mask .u64 64 (by decide) wu_fits i hi x h0 (by omega)
theorem and32 (x:Int) (h0:0≤x) (h1:x<18446744073709551616):Go.bits .and .u64 x 4294967295=x%4294967296:=and_mask 32 (by decide) x h0 h1
theorem and1 (x:Int) (h0:0≤x) (h1:x<18446744073709551616):Go.bits .and .u64 x 1=x%2:=and_mask 1 (by decide) x h0 h1
theorem and52 (x:Int) (h0:0≤x) (h1:x<18446744073709551616):Go.bits .and .u64 x 4503599627370495=x%4503599627370496:=and_mask 52 (by decide) x h0 h1
theorem and11 (x:Int) (h0:0≤x) (h1:x<18446744073709551616):Go.bits .and .u64 x 2047=x%2048:=and_mask 11 (by decide) x h0 h1
theorem or_join (i:Nat) (x y:Int) (hx0:0≤x) (hx:x%2^i=0) (hx1:x<18446744073709551616) (hy0:0≤y) (hy:y<2^i) (hy1:y<18446744073709551616):Go.bits .or .u64 x y=x+y :=
 bits_join .u64 64 (by decide) wu_fits i x y hx0 hx (by omega) hy0 hy (by omega)
theorem or_nat (a b:Nat) (ha:a<2^64) (hb:b<2^64):Go.bits .or .u64 a b=((a ||| b:Nat):Int):=(bits_nat .u64 64 (by decide) wu_fits a b ha hb).2
theorem and_nat (a b:Nat) (ha:a<2^64) (hb:b<2^64):Go.bits .and .u64 a b=((a &&& b:Nat):Int):=(bits_nat .u64 64 (by decide) wu_fits a b ha hb).1
theorem or_comm (x y:Int) (hx0:0≤x) (hx1:x<18446744073709551616) (hy0:0≤y) (hy1:y<18446744073709551616):Go.bits .or .u64 x y=Go.bits .or .u64 y x:=by
 obtain ⟨a,rfl⟩:=Int.eq_ofNat_of_zero_le hx0
 obtain ⟨b,rfl⟩:=Int.eq_ofNat_of_zero_le hy0
 rw [or_nat a b (by omega) (by omega),or_nat b a (by omega) (by omega),Nat.or_comm]

theorem shr_u (x y:Int) (h:y≤64):shr .u64 x y=x/2^y.toNat:=by
 unfold shr
 rw [show IntKind.bits .u64=64 from rfl,Nat.min_eq_left (by omega)]
theorem shl_u (x y:Int) (h:y≤64):shl .u64 x y=x*2^y.toNat%18446744073709551616:=by
 unfold shl
 rw [wu,show IntKind.bits .u64=64 from rfl,Nat.min_eq_left (by omega)]

theorem _root_.Go.Proofs.YtjocbnjpjihpnaaW.PrintWords.Ev.ifp {α:Type} {c:Prop} [Decidable c] {f g:Nat→Option α} {r:α} (h:c) (k:Ev f r):Ev (fun n=>if c then f n else g n) r:=by
 obtain ⟨K,k⟩:=k
 exact ⟨K,fun n hn=>(if_pos h).trans (k n hn)⟩
theorem _root_.Go.Proofs.YtjocbnjpjihpnaaW.PrintWords.Ev.ifn {α:Type} {c:Prop} [Decidable c] {f g:Nat→Option α} {r:α} (h : ¬ c) (k:Ev g r):Ev (fun n=>if c then f n else g n) r:=by
 obtain ⟨K,k⟩:=k
 exact ⟨K,fun n hn=>(if_neg h).trans (k n hn)⟩
theorem _root_.Go.Proofs.YtjocbnjpjihpnaaW.PrintWords.Ev.same {α:Type} {x:Option α} {r:α} (h:x=some r):Ev (fun _=>x) r:=⟨0,fun _ _=>h⟩
theorem _root_.Go.Proofs.YtjocbnjpjihpnaaW.PrintWords.Ev.eqr {α:Type} {g:Nat→Option α} {r r':α} (h:Ev g r) (e:r=r'):Ev g r':=e▸h
theorem _root_.Go.Proofs.YtjocbnjpjihpnaaW.PrintWords.Ev.eqv {α:Type} {g f:Nat→Option α} {r:α} (h : ∀ k,g k=f k) (k:Ev f r):Ev g r:=by
 obtain rfl:g=f:=funext h
 exact k
theorem _root_.Go.Proofs.YtjocbnjpjihpnaaW.PrintWords.Ev.bindc {α β:Type} {x:Option α} {f:Nat→α→Option β} {a:α} {r:β} (h:x=some a) (k:Ev (fun n=>f n a) r):Ev (fun n=>x.bind (f n)) r:=Ev.bind (Ev.same h) k

def bl (x:Int):Int:=if x≤0 then 0 else ((Nat.log2 x.toNat+1:Nat):Int)
theorem bl_zero:bl 0=0:=rfl
theorem bl_nonneg (x:Int):0≤bl x:=by unfold bl;split<;>omega
theorem bl_pos {x:Int} (h:0<x):0<bl x:=by unfold bl;rw [if_neg (by omega)];omega
theorem bl_lt (x:Int):x<2^(bl x).toNat:=by
 unfold bl
 split
 · simp only [Int.toNat_zero,Int.pow_zero];omega
 · rw [Int.toNat_natCast]
   have h:= @Nat.lt_log2_self x.toNat
   have h3:((x.toNat:Nat):Int)<((2^(Nat.log2 x.toNat+1):Nat):Int):=by exact_mod_cast h
   have h4:((2^(Nat.log2 x.toNat+1):Nat):Int)=(2:Int)^(Nat.log2 x.toNat+1):=by push_cast;rfl
   rw [← h4]
   omega
theorem bl_le {x:Int} (h:0<x):2^(bl x-1).toNat≤x:=by
 unfold bl
 rw [if_neg (by omega)]
 have h1:=Nat.log2_self_le (n:=x.toNat) (by omega)
 have h3:((2^(Nat.log2 x.toNat):Nat):Int)≤((x.toNat:Nat):Int):=by exact_mod_cast h1
 have h4:((2^(Nat.log2 x.toNat):Nat):Int)=(2:Int)^(Nat.log2 x.toNat):=by push_cast;rfl
 rw [h4] at h3
 have e:(((Nat.log2 x.toNat+1:Nat):Int)-1).toNat=Nat.log2 x.toNat:=by omega
 rw [e]
 omega
theorem pow_le_pow {a b:Nat} (h:a≤b):(2:Int)^a≤2^b:=by
 have:=Nat.pow_le_pow_right (n:=2) (by decide) h
 have h2:((2^a:Nat):Int)≤((2^b:Nat):Int):=by exact_mod_cast this
 rw [Int.natCast_pow,Int.natCast_pow] at h2
 exact h2
theorem pow_pos (a:Nat):(0:Int)<2^a:=by
 have:=Nat.two_pow_pos a
 have h2:(0:Int)<((2^a:Nat):Int):=by exact_mod_cast this
 rw [Int.natCast_pow] at h2
 exact h2
theorem pow_lt_of {a b:Nat} (h:(2:Int)^a<2^b):a<b:=by
 rcases Nat.lt_or_ge a b with h1 | h1
 · exact h1
 · have:=pow_le_pow h1
   omega
theorem bl_eq {x:Int} {n:Nat} (h1:2^n≤x) (h2:x<2^(n+1)):bl x=n+1:=by
 have hp:=pow_pos n
 have hx:0<x:=by omega
 have a1:=bl_lt x
 have a2:=bl_le hx
 have a3:=bl_pos hx
 have:n<(bl x).toNat:=pow_lt_of (by omega)
 have:(bl x-1).toNat<n+1:=pow_lt_of (by omega)
 omega
theorem bl_le_of {x:Int} {n:Nat} (h:x<2^n):bl x≤n:=by
 rcases Int.lt_or_le 0 x with hx | hx
 · have a2:=bl_le hx
   have:(bl x-1).toNat<n:=pow_lt_of (by omega)
   omega
 · have:bl x=0:=by unfold bl;rw [if_pos hx]
   omega
theorem bl_64 {x:Int} (h:x<18446744073709551616):bl x≤64:=bl_le_of (n:=64) (by omega)
theorem bl_shr {x:Int} {s:Nat} (h:2^s≤x):bl x=bl (x/2^s)+s:=by
 have hp:=pow_pos s
 have hq:1≤x/2^s:=by rw [Int.le_ediv_iff_mul_le hp];omega
 have a1:=bl_lt (x/2^s)
 have a2:=bl_le (x:=x/2^s) (by omega)
 have a3:=bl_pos (x:=x/2^s) (by omega)
 obtain ⟨n,hn⟩ : ∃ n:Nat,bl (x/2^s)=n+1:=⟨(bl (x/2^s)-1).toNat,by omega⟩
 rw [hn] at a1 a2 ⊢
 have e1:((n:Int)+1).toNat=n+1:=by omega
 have e2:((n:Int)+1-1).toNat=n:=by omega
 rw [e1] at a1
 rw [e2] at a2
 have b1:2^n*2^s≤x:=(Int.le_ediv_iff_mul_le hp).1 a2
 have b2:x<2^(n+1)*2^s:=(Int.ediv_lt_iff_lt_mul hp).1 a1
 rw [← Int.pow_add] at b1 b2
 rw [bl_eq (n:=n+s) b1 (by rwa [show n+s+1=n+1+s by omega])]
 omega
def U (x:Int):Prop:=0≤x∧x<18446744073709551616
def nv:List Int→Int
 | []=>0
 | x::l=>x+18446744073709551616*nv l
def dgF:Nat→Int→List Int
 | 0,_=> []
 | k+1,n=>if n≤0 then [] else n%18446744073709551616::dgF k (n/18446744073709551616)
def dg (n:Int):List Int:=dgF n.toNat n
theorem bl_mono {x y:Int} (h:x≤y):bl x≤bl y:=by
 have h1:=bl_lt y
 have:=bl_le_of (x:=x) (n:=(bl y).toNat) (by omega)
 have:=bl_nonneg y
 omega
theorem mul_halves (a b:Int):a*b=(a/4294967296)*(b/4294967296)*18446744073709551616+((a%4294967296)*(b/4294967296)+(a/4294967296)*(b%4294967296))*4294967296+(a%4294967296)*(b%4294967296):=by
 have h1:=Int.mul_ediv_add_emod a 4294967296
 have h2:=Int.mul_ediv_add_emod b 4294967296
 generalize a/4294967296=a1 at *
 generalize b/4294967296=b1 at *
 generalize a%4294967296=a0 at *
 generalize b%4294967296=b0 at *
 subst h1 h2
 grind
theorem mul_bound {x y m n:Int} (hx0:0≤x) (hx:x≤m) (hy0:0≤y) (hy:y≤n):0≤x*y∧x*y≤m*n :=
 ⟨Int.mul_nonneg hx0 hy0,Int.mul_le_mul hx hy hy0 (by omega)⟩
theorem limb_Mul_c {a b:Int} (ha:U a) (hb:U b):limb_Mul.f a b=some (a*b/18446744073709551616,a*b%18446744073709551616):=by
 unfold U at ha hb
 unfold limb_Mul.f
 have e:=mul_halves a b
 have k1:=mul_bound (x:=a%4294967296) (y:=b%4294967296) (m:=4294967295) (n:=4294967295) (by omega) (by omega) (by omega) (by omega)
 have k2:=mul_bound (x:=a%4294967296) (y:=b/4294967296) (m:=4294967295) (n:=4294967295) (by omega) (by omega) (by omega) (by omega)
 have k3:=mul_bound (x:=a/4294967296) (y:=b%4294967296) (m:=4294967295) (n:=4294967295) (by omega) (by omega) (by omega) (by omega)
 have k4:=mul_bound (x:=a/4294967296) (y:=b/4294967296) (m:=4294967295) (n:=4294967295) (by omega) (by omega) (by omega) (by omega)
 rw [and32 a (by omega) (by omega),and32 b (by omega) (by omega)]
 generalize a%4294967296*(b%4294967296)=p at *
 generalize a%4294967296*(b/4294967296)=q at *
 generalize a/4294967296*(b%4294967296)=r at *
 generalize a/4294967296*(b/4294967296)=t at *
 rw [e]
 clear e ha hb
 simp only [Int.reduceMul] at *
 simp only [wu]
 rw [and32 _ (by omega) (by omega),and32 _ (by omega) (by omega),or_join 32 _ _ (by omega) (by omega) (by omega) (by omega) (by omega) (by omega)]
 simp only [Option.some.injEq,Prod.mk.injEq]
 omega

theorem len_base (k:Nat) (x n:Int) (h0:0≤x) (h1:x<2) (hn0:0≤n) (hn1:n≤63):limb_Len.l0 (k+1) x n 0=some (n+bl x):=by
 simp only [limb_Len.l0]
 rw [if_neg (by omega),w64_id (n:=x) (by omega) (by omega),w64_id (by omega) (by omega)]
 rcases (show x=0∨x=1 by omega) with rfl | rfl
 · rfl
 · have:bl 1=1:=rfl
   rw [this]
theorem len_step (k s s':Nat) (hs:0<s) (hs2:s≤32) (hs':s'=s/2)
 (H : ∀ x n:Int,0≤x→x<2^s→0≤n→n≤64-s→limb_Len.l0 k x n s'=some (n+bl x))
 (x n:Int) (h0:0≤x) (h1:x<2^(2*s)) (hn0:0≤n) (hn1:n≤64-2*s):limb_Len.l0 (k+1) x n s=some (n+bl x):=by
 have hp:=pow_pos s
 have hd:((s:Nat):Int)/2=((s':Nat):Int):=by omega
 simp only [limb_Len.l0]
 rw [if_pos (by omega),if_pos (by omega),shr_u _ _ (by omega),Int.toNat_natCast,hd]
 by_cases hq:x/2^s>0
 · have hle:2^s≤x:=by
    rcases Int.lt_or_le x (2^s) with h | h
    · rw [Int.ediv_eq_zero_of_lt h0 h] at hq;omega
    · exact h
   rw [if_pos hq,w64_id (by omega) (by omega),H _ _ (by omega) ?_ (by omega) (by omega),bl_shr hle]
   · congr 1;omega
   · rw [Int.ediv_lt_iff_lt_mul hp,← Int.pow_add]
     rwa [show s+s=2*s by omega]
 · have hlt:x<2^s:=by
    rcases Int.lt_or_le x (2^s) with h | h
    · exact h
    · have:1≤x/2^s:=by rw [Int.le_ediv_iff_mul_le hp];omega
      omega
   rw [if_neg hq,H _ _ h0 hlt hn0 (by omega)]
theorem limb_Len_c {x:Int} (h:U x):Ev (fun k=>limb_Len.f k x) (bl x):=by
 refine ⟨7,fun k hk=> ?_⟩
 obtain ⟨k,rfl⟩ : ∃ m,k=m+1+1+1+1+1+1+1:=⟨k-7,by omega⟩
 have s0 : ∀ x n:Int,0≤x→x<2^1→0≤n→n≤64-((1:Nat):Int)→limb_Len.l0 (k+1) x n ((0:Nat):Int)=some (n+bl x):=fun x n a b c d=>len_base k x n a (by omega) c (by omega)
 have s1:=len_step (k+1) 1 0 (by omega) (by omega) rfl s0
 have s2:=len_step (k+1+1) 2 1 (by omega) (by omega) rfl (fun x n a b c d=>s1 x n a b c (by omega))
 have s3:=len_step (k+1+1+1) 4 2 (by omega) (by omega) rfl (fun x n a b c d=>s2 x n a b c (by omega))
 have s4:=len_step (k+1+1+1+1) 8 4 (by omega) (by omega) rfl (fun x n a b c d=>s3 x n a b c (by omega))
 have s5:=len_step (k+1+1+1+1+1) 16 8 (by omega) (by omega) rfl (fun x n a b c d=>s4 x n a b c (by omega))
 have s6:=len_step (k+1+1+1+1+1+1) 32 16 (by omega) (by omega) rfl (fun x n a b c d=>s5 x n a b c (by omega))
 have:=s6 x 0 h.1 h.2 (by omega) (by omega)
 unfold limb_Len.f
 exact this.trans (by congr 1;omega)
theorem digit_loop (rest next d d0 d1:Int) (hd:d=d1*4294967296+d0) (hd1:2147483648≤d1) (hd1':d1<4294967296) (hd0:0≤d0) (hd0':d0<4294967296) (hr0:0≤rest) (hr1:rest<d) (hn0:0≤next) (hn1:next<4294967296) (m:Nat) :
 ∀ q r:Int,q.toNat<m→q*d1+r=rest→0≤r→r<4294967296→q≤4294967297→(rest*4294967296+next)/d≤q →
   Ev (fun k=>limb_digit.l0 k rest next d d0 d1 q r) ((rest*4294967296+next)/d,(rest*4294967296+next)%d):=by
 have hdp:0<d:=by omega
 have hN0:0≤(rest*4294967296+next)/d:=Int.ediv_nonneg (by omega) (by omega)
 have hNlt:(rest*4294967296+next)/d<4294967296:=by rw [Int.ediv_lt_iff_lt_mul hdp];omega
 have hmod:=Int.emod_nonneg (rest*4294967296+next) (show d≠0 by omega)
 have hmod2:=Int.emod_lt_of_pos (rest*4294967296+next) hdp
 have hdm:=Int.mul_ediv_add_emod (rest*4294967296+next) d
 have fin : ∀ q:Int,q=(rest*4294967296+next)/d→IntKind.u64.wrap ((IntKind.u64.wrap ((IntKind.u64.wrap (rest*4294967296))+next))-(IntKind.u64.wrap (q*d)))=(rest*4294967296+next)%d:=by
  intro q hq
  subst hq
  generalize (rest*4294967296+next)/d=q at *
  generalize (rest*4294967296+next)%d=r at *
  have e:q*d=d*q:=Int.mul_comm _ _
  rw [e]
  generalize d*q=p at *
  simp only [wu]
  omega
 induction m with
 | zero=>intro q r hm;omega
 | succ m ih =>
   intro q r hm hq h0 h1 h2 h3
   have hqn:0≤q:=by omega
   have hp:=mul_bound (x:=q) (y:=d0) (m:=4294967297) (n:=4294967295) hqn h2 hd0 (by omega)
   have hp1:(q-1)*d0=q*d0-d0:=by rw [Int.sub_mul,Int.one_mul]
   have hs1:(q-1)*d1=q*d1-d1:=by rw [Int.sub_mul,Int.one_mul]
   have hqd:q*d=q*d1*4294967296+q*d0:=by rw [hd,Int.mul_add,← Int.mul_assoc]
   have hqd1:(q-1)*d=q*d-d:=by rw [Int.sub_mul,Int.one_mul]
   have more:(rest*4294967296+next)/d<q→Ev (fun k=>limb_digit.j1 k rest next d d0 d1 q r true) ((rest*4294967296+next)/d,(rest*4294967296+next)%d):=by
    intro hlt
    refine Ev.step (fun k=>limb_digit.j1.eq_2 ..) ?_
    refine Ev.ifp rfl ?_
    have w1:IntKind.u64.wrap (r+d1)=r+d1:=wu_id (by omega) (by omega)
    have w2:IntKind.u64.wrap (q-1)=q-1:=wu_id (by omega) (by omega)
    rw [w1,w2]
    by_cases hb:r+d1>4294967295
    · refine Ev.ifp hb ?_
      have hle:q-1≤(rest*4294967296+next)/d:=by
       rw [Int.le_ediv_iff_mul_le hdp,hqd1,hqd]
       have hp2:=mul_bound (x:=q-1) (y:=d0) (m:=4294967296) (n:=4294967295) (by omega) (by omega) hd0 (by omega)
       generalize (q-1)*d0=p1 at *
       generalize q*d0=p at *
       generalize q*d1=s at *
       omega
      have he:q-1=(rest*4294967296+next)/d:=by omega
      exact Ev.same (by rw [fin _ he,he])
    · refine Ev.ifn hb ?_
      exact ih (q-1) (r+d1) (by omega) (by rw [hs1];omega) (by omega) (by omega) (by omega) (by omega)
   refine Ev.step (fun k=>limb_digit.l0.eq_2 ..) ?_
   by_cases hq1:q>4294967295
   · exact Ev.ifp hq1 (more (by omega))
   · refine Ev.ifn hq1 ?_
     have w1:IntKind.u64.wrap (q*d0)=q*d0:=by
      have hp3:=mul_bound (x:=q) (y:=d0) (m:=4294967295) (n:=4294967295) hqn (by omega) hd0 (by omega)
      exact wu_id (by omega) (by omega)
     have w2:Go.bits .or .u64 (IntKind.u64.wrap (r*4294967296)) next=r*4294967296+next:=by
      rw [wu_id (by omega) (by omega)]
      exact or_join 32 _ _ (by omega) (by omega) (by omega) (by omega) (by omega) (by omega)
     rw [w1,w2]
     by_cases hc:q*d0>r*4294967296+next
     · rw [decide_eq_true hc]
       refine more ?_
       rw [Int.ediv_lt_iff_lt_mul hdp,hqd]
       generalize q*d0=p at *
       generalize q*d1=s at *
       omega
     · rw [decide_eq_false hc]
       have hle:q≤(rest*4294967296+next)/d:=by
        rw [Int.le_ediv_iff_mul_le hdp,hqd]
        generalize q*d0=p at *
        generalize q*d1=s at *
        omega
       have he:q=(rest*4294967296+next)/d:=by omega
       refine Ev.step (fun k=>limb_digit.j1.eq_2 ..) ?_
       refine Ev.ifn (by decide) ?_
       exact Ev.same (by rw [fin _ he,he])
theorem limb_digit_c {rest next d:Int} (hd:9223372036854775808≤d) (hd':d<18446744073709551616) (hr0:0≤rest) (hr1:rest<d) (hn0:0≤next) (hn1:next<4294967296) :
 Ev (fun k=>limb_digit.f k rest next d) ((rest*4294967296+next)/d,(rest*4294967296+next)%d):=by
 have e1:=Int.mul_ediv_add_emod d 4294967296
 have h1:2147483648≤d/4294967296:=by omega
 have h2:d/4294967296<4294967296:=by omega
 refine Ev.ifn (by omega) ?_
 rw [and32 d (by omega) hd']
 have hq0:=Int.ediv_nonneg hr0 (show 0≤d/4294967296 by omega)
 have m0:=Int.emod_nonneg rest (show d/4294967296≠0 by omega)
 have m1:=Int.emod_lt_of_pos rest (show 0<d/4294967296 by omega)
 have md:=Int.mul_ediv_add_emod rest (d/4294967296)
 rw [Int.tdiv_eq_ediv_of_nonneg hr0,Int.tmod_eq_emod_of_nonneg hr0]
 have hqle:rest/(d/4294967296)≤4294967297:=by
  have:rest/(d/4294967296)<4294967298:=by rw [Int.ediv_lt_iff_lt_mul (by omega)];omega
  omega
 rw [wu_id hq0 (by omega)]
 refine digit_loop rest next d (d%4294967296) (d/4294967296) (by omega) h1 h2 (by omega) (by omega) hr0 hr1 hn0 hn1 ((rest/(d/4294967296)).toNat+1) _ _ (by omega) (by rw [Int.mul_comm];omega) m0 (by omega) hqle ?_
 have hlt:(rest*4294967296+next)/d<rest/(d/4294967296)+1:=by
  rw [Int.ediv_lt_iff_lt_mul (by omega)]
  have e2:(rest/(d/4294967296)+1)*d=(d/4294967296*(rest/(d/4294967296))+d/4294967296)*4294967296+(rest/(d/4294967296)+1)*(d%4294967296):=by
   generalize rest/(d/4294967296)=q at *
   generalize d/4294967296=d1 at *
   generalize d%4294967296=d0 at *
   subst e1
   grind
  have e3:0≤(rest/(d/4294967296)+1)*(d%4294967296):=Int.mul_nonneg (by omega) (by omega)
  rw [e2]
  generalize (rest/(d/4294967296)+1)*(d%4294967296)=z at *
  generalize d/4294967296*(rest/(d/4294967296))=y at *
  omega
 omega

theorem bl_top {d:Int} (h0:0<d) (h1:d<18446744073709551616):9223372036854775808≤d*2^(64-bl d).toNat∧d*2^(64-bl d).toNat<18446744073709551616:=by
 have a1:=bl_lt d
 have a2:=bl_le h0
 have a3:=bl_64 h1
 have a4:=bl_pos h0
 obtain ⟨n,hn⟩ : ∃ n:Nat,bl d=n+1:=⟨(bl d-1).toNat,by omega⟩
 rw [hn] at a1 a2 a3 ⊢
 have e1:((n:Int)+1).toNat=n+1:=by omega
 have e2:((n:Int)+1-1).toNat=n:=by omega
 have e3:(64-((n:Int)+1)).toNat=63-n:=by omega
 rw [e1] at a1
 rw [e2] at a2
 rw [e3]
 have hp:=pow_pos (63-n)
 have b1:=Int.mul_le_mul_of_nonneg_right a2 (Int.le_of_lt hp)
 have b2:=Int.mul_lt_mul_of_pos_right a1 hp
 rw [← Int.pow_add,show n+(63-n)=63 by omega] at b1
 rw [← Int.pow_add,show n+1+(63-n)=64 by omega] at b2
 omega
theorem limb_Div_c {hi lo d:Int} (hhi:0≤hi) (hlt:hi<d) (hd:d<18446744073709551616) (hlo:U lo) :
 Ev (fun k=>limb_Div.f k hi lo d) ((hi*18446744073709551616+lo)/d,(hi*18446744073709551616+lo)%d,true):=by
 obtain ⟨hlo0,hlo1⟩:=hlo
 refine Ev.ifn (by omega) ?_
 refine Ev.bind (limb_Len_c ⟨by omega,hd⟩) ?_
 have b1:=bl_pos (x:=d) (by omega)
 have b2:=bl_64 hd
 have b3:=bl_top (d:=d) (by omega) hd
 have e64:wrap64 (64-bl d)=64-bl d:=w64_id (by omega) (by omega)
 have e63:wrap64 (63-(64-bl d))=bl d-1:=by rw [w64_id (by omega) (by omega)];omega
 rw [e64,e63]
 refine Ev.ifp (by omega) (Ev.ifp (by omega) ?_)
 obtain ⟨s,hs⟩ : ∃ s:Nat,64-bl d=s:=⟨(64-bl d).toNat,by omega⟩
 have hs63:s≤63:=by omega
 have hs1:bl d-1=((63-s:Nat):Int):=by omega
 rw [hs] at b3 ⊢
 rw [hs1]
 rw [Int.toNat_natCast] at b3
 have hp:=pow_pos s
 have hp2:=pow_pos (64-s)
 have hpp:(2:Int)^s*2^(64-s)=18446744073709551616:=by rw [← Int.pow_add,show s+(64-s)=64 by omega];rfl
 rw [shl_u d _ (by omega),shl_u hi _ (by omega),shl_u lo _ (by omega),shr_u _ _ (by omega),Int.toNat_natCast,Int.toNat_natCast]
 have hdm:d*2^s%18446744073709551616=d*2^s:=Int.emod_eq_of_lt (by omega) b3.2
 have hh0:0≤hi*2^s:=Int.mul_nonneg hhi (by omega)
 have hh1:hi*2^s+2^s≤d*2^s:=by
  have:=Int.mul_le_mul_of_nonneg_right (show hi+1≤d by omega) (Int.le_of_lt hp)
  rw [Int.add_mul,Int.one_mul] at this
  exact this
 have hhm:hi*2^s%18446744073709551616=hi*2^s:=Int.emod_eq_of_lt hh0 (by omega)
 have hl2:lo/2/2^(63-s)=lo/2^(64-s):=by
  rw [Int.ediv_ediv_of_nonneg (by omega),show (64-s)=(63-s)+1 by omega,Int.pow_succ,Int.mul_comm]
 have hl3:0≤lo/2^(64-s):=Int.ediv_nonneg hlo0 (by omega)
 have hl4:lo/2^(64-s)<2^s:=by rw [Int.ediv_lt_iff_lt_mul hp2,hpp];exact hlo1
 have hl5:lo*2^s=lo/2^(64-s)*18446744073709551616+lo%2^(64-s)*2^s:=by
  have h:=Int.mul_ediv_add_emod lo (2^(64-s))
  generalize lo/2^(64-s)=q at *
  generalize lo%2^(64-s)=r at *
  rw [← h,Int.add_mul,← hpp]
  grind
 have hl6:0≤lo%2^(64-s):=Int.emod_nonneg _ (by omega)
 have hl7:lo%2^(64-s)<2^(64-s):=Int.emod_lt_of_pos _ hp2
 have hl8:lo%2^(64-s)*2^s<18446744073709551616:=by
  have:=Int.mul_lt_mul_of_pos_right hl7 hp
  rw [Int.mul_comm (2^(64-s)),hpp] at this
  exact this
 have hl9:0≤lo%2^(64-s)*2^s:=Int.mul_nonneg hl6 (by omega)
 have hlm:lo*2^s%18446744073709551616=lo%2^(64-s)*2^s:=by omega
 have hor:Go.bits .or .u64 (hi*2^s) (lo/2^(64-s))=hi*2^s+lo/2^(64-s) :=
  or_join s _ _ hh0 (Int.mul_emod_left _ _) (by omega) hl3 hl4 (by omega)
 rw [hdm,hhm,hl2,hor,hlm]
 have hN:(hi*18446744073709551616+lo)*2^s=(hi*2^s+lo/2^(64-s))*18446744073709551616+lo%2^(64-s)*2^s:=by
  have:(hi*18446744073709551616+lo)*2^s=hi*2^s*18446744073709551616+lo*2^s:=by grind
  rw [this,hl5]
  grind
 have hdiv:(hi*18446744073709551616+lo)/d=(hi*18446744073709551616+lo)*2^s/(d*2^s):=(Int.mul_ediv_mul_of_pos_left _ _ hp).symm
 have hmod:(hi*18446744073709551616+lo)*2^s%(d*2^s)=(hi*18446744073709551616+lo)%d*2^s:=by
  rw [Int.mul_comm _ (2^s),Int.mul_comm d (2^s),Int.mul_emod_mul_of_pos _ _ hp,Int.mul_comm]
 have hm1:=Int.emod_nonneg (hi*18446744073709551616+lo) (show d≠0 by omega)
 have hmm:(hi*18446744073709551616+lo)%d=(hi*18446744073709551616+lo)*2^s%(d*2^s)/2^s:=by rw [hmod,Int.mul_ediv_cancel _ (by omega)]
 rw [hdiv,hmm,hN]
 have hH:0≤hi*2^s+lo/2^(64-s):=by omega
 have hHD:hi*2^s+lo/2^(64-s)<d*2^s:=by omega
 generalize hi*2^s+lo/2^(64-s)=H at *
 generalize lo%2^(64-s)*2^s=L at *
 generalize d*2^s=D at *
 refine Ev.bind (limb_digit_c b3.1 b3.2 hH hHD (by omega) (by omega)) ?_
 have r0:=Int.emod_nonneg (H*4294967296+L/4294967296) (show D≠0 by omega)
 have r1:=Int.emod_lt_of_pos (H*4294967296+L/4294967296) (show 0<D by omega)
 rw [and32 L (by omega) hl8]
 refine Ev.bind (limb_digit_c b3.1 b3.2 r0 r1 (by omega) (by omega)) ?_
 have q10:0≤(H*4294967296+L/4294967296)/D:=Int.ediv_nonneg (by omega) (by omega)
 have q11:(H*4294967296+L/4294967296)/D<4294967296:=by rw [Int.ediv_lt_iff_lt_mul (by omega)];omega
 have md:=Int.mul_ediv_add_emod (H*4294967296+L/4294967296) D
 generalize (H*4294967296+L/4294967296)/D=q1 at *
 generalize (H*4294967296+L/4294967296)%D=r at *
 have hR:H*18446744073709551616+L=D*(q1*4294967296)+(r*4294967296+L%4294967296):=by
  have:D*(q1*4294967296)=D*q1*4294967296:=by rw [Int.mul_assoc]
  rw [this]
  generalize D*q1=z at *
  omega
 have q00:0≤(r*4294967296+L%4294967296)/D:=Int.ediv_nonneg (by omega) (by omega)
 have q01:(r*4294967296+L%4294967296)/D<4294967296:=by rw [Int.ediv_lt_iff_lt_mul (by omega)];omega
 have s0:=Int.emod_nonneg (r*4294967296+L%4294967296) (show D≠0 by omega)
 have s1:=Int.emod_lt_of_pos (r*4294967296+L%4294967296) (show 0<D by omega)
 have eD:(D*(q1*4294967296)+(r*4294967296+L%4294967296))/D=(r*4294967296+L%4294967296)/D+q1*4294967296:=by
  rw [Int.add_comm,Int.add_mul_ediv_left _ _ (by omega)]
 have eM:(D*(q1*4294967296)+(r*4294967296+L%4294967296))%D=(r*4294967296+L%4294967296)%D:=by
  rw [Int.add_comm,Int.add_mul_emod_self_left]
 rw [hR,eD,eM]
 have hw:Go.bits .or .u64 (IntKind.u64.wrap (q1*4294967296)) ((r*4294967296+L%4294967296)/D)=(r*4294967296+L%4294967296)/D+q1*4294967296:=by
  rw [wu_id (by omega) (by omega),or_join 32 _ _ (by omega) (by omega) (by omega) (by omega) (by omega) (by omega)]
  omega
 have hsh:shr .u64 ((r*4294967296+L%4294967296)%D) (s:Int)=(r*4294967296+L%4294967296)%D/2^s:=by rw [shr_u _ _ (by omega),Int.toNat_natCast]
 exact Ev.same (by rw [hw,hsh])

theorem w_split {b:Nat} (h:b≤64):(2:Int)^(64-b)*2^b=18446744073709551616:=by
 rw [← Int.pow_add,show 64-b+b=64 by omega];rfl
theorem mod_up (z:Int) {b:Nat} (h:b≤64):z*2^(64-b)%18446744073709551616=2^(64-b)*(z%2^b):=by
 rw [← w_split h,Int.mul_comm z,Int.mul_emod_mul_of_pos _ _ (pow_pos _)]
theorem mod_up' (z:Int) {b:Nat} (h:b≤64):z*2^b%18446744073709551616=2^b*(z%2^(64-b)):=by
 have:=mod_up z (b:=64-b) (by omega)
 rwa [show 64-(64-b)=b by omega] at this
def hv:List Int→Int
 | []=>0
 | x::l=>x+4294967296*hv l
def hl:List Int→List Int
 | []=> []
 | x::l=>x%4294967296::x/4294967296::hl l
def hh (l:List Int):List Int:=dg (nv (hl l))
def fx (b:Int):Int:=b/4503599627370496%2048
def fr (b:Int):Int:=b%4503599627370496
def fs (b:Int):Bool:=decide (b≥9223372036854775808)
def sgn (neg:Bool) (b:Int):Int:=if neg then b+9223372036854775808 else b
def fk (b:Int):Int:=if fx b=2047 then (if fr b=0 then 3 else 4) else if fx b=0 then (if fr b=0 then 0 else 1) else 2
def pm (b:Int):Int:=if fx b=0 then fr b else fr b+4503599627370496
def pe (b:Int):Int:=if fx b=0 then -1074 else fx b-1075
def INF:Int:=9218868437227405312
def NAN:Int:=9221120237041090560

theorem mul_cmp {a b c:Int} (h:0<c):(a*c>b*c↔a>b)∧(a*c=b*c↔a=b):=by
 constructor
 · constructor
   · intro h1
     rcases Int.lt_or_le b a with h2 | h2
     · exact h2
     · have:=Int.mul_le_mul_of_nonneg_right h2 (Int.le_of_lt h)
       omega
   · intro h1
     exact Int.mul_lt_mul_of_pos_right h1 h
 · exact ⟨fun h1=>Int.eq_of_mul_eq_mul_right (by omega) h1,fun h1=>by rw [h1]⟩
theorem mod_split (M:Int) {G D:Int} (hG:0<G):M%(G*D)=G*(M/G%D)+M%G:=by
 rw [Int.emod_def M (G*D),← Int.ediv_ediv_of_nonneg (by omega),Int.emod_def (M/G) D,Int.emod_def M G]
 grind

def rnd (M:Int) (d:Nat):Int:=if 2*(M%2^d)>2^d∨(2*(M%2^d)=2^d∧M/2^d%2=1) then M/2^d+1 else M/2^d
theorem rnd_zero (M:Int):rnd M 0=M:=by
 unfold rnd
 rw [Int.pow_zero,Int.ediv_one,Int.emod_one,if_neg (by omega)]
theorem rnd_le (M:Int) (d:Nat):M/2^d≤rnd M d∧rnd M d≤M/2^d+1:=by
 unfold rnd
 split<;>omega
theorem rnd_small {M:Int} {d:Nat} (h0:0≤M) (h:2*M<2^d):rnd M d=0:=by
 unfold rnd
 rw [Int.emod_eq_of_lt h0 (by omega),Int.ediv_eq_zero_of_lt h0 (by omega),if_neg (by omega)]
theorem rnd_exact {M:Int} {d:Nat} (h:M%2^d=0):rnd M d=M/2^d:=by
 have:=pow_pos d
 unfold rnd
 rw [h,if_neg (by omega)]
theorem rnd_scale (M:Int) (d s:Nat):rnd (M*2^s) (d+s)=rnd M d:=by
 have hs:=pow_pos s
 have e1:M*2^s/2^(d+s)=M/2^d:=by
  rw [Int.pow_add,Int.mul_comm M,Int.mul_comm (2^d),Int.mul_ediv_mul_of_pos _ _ hs]
 have e2:M*2^s%2^(d+s)=M%2^d*2^s:=by
  rw [Int.pow_add,Int.mul_comm M,Int.mul_comm (2^d),Int.mul_emod_mul_of_pos _ _ hs,Int.mul_comm]
 have e3:=mul_cmp (a:=2*(M%2^d)) (b:=2^d) hs
 unfold rnd
 rw [e1,e2,← Int.mul_assoc,Int.pow_add]
 simp only [e3.1,e3.2]
theorem bl_ge' {x:Int} {n:Nat} (h:2^n≤x):(n:Int)+1≤bl x:=by
 have:=pow_pos n
 have a1:=bl_lt x
 have:n<(bl x).toNat:=pow_lt_of (by omega)
 omega
theorem bl_shl {m:Int} (h:0<m) (s:Nat):bl (m*2^s)=bl m+s:=by
 have hp:=pow_pos s
 have h1:2^s≤m*2^s:=by
  have:=Int.mul_le_mul_of_nonneg_right (show 1≤m by omega) (Int.le_of_lt hp)
  omega
 rw [bl_shr h1,Int.mul_ediv_cancel _ (by omega)]

def un (m e:Int):Int:=max (bl m+e-53) (-1074)
theorem un_ge (m e:Int) : -1074≤un m e:=by unfold un;omega
theorem un_scale {m:Int} (h:0<m) (e:Int) (s:Nat):un (m*2^s) (e-s)=un m e:=by
 unfold un
 rw [bl_shl h,show bl m+(s:Int)+(e-s)-53=bl m+e-53 by omega]
def ru (m e u:Int):Int:=rnd (m*2^(e-u).toNat) (u-e).toNat
theorem ru_scale (m e u:Int) (s:Nat):ru (m*2^s) (e-s) u=ru m e u:=by
 unfold ru
 rcases Int.lt_or_le u e with h | h
 · obtain ⟨t,ht⟩ : ∃ t:Nat,e-u=t:=⟨(e-u).toNat,by omega⟩
   rw [show (u-e).toNat=0 by omega,rnd_zero,ht,Int.toNat_natCast]
   rcases Nat.lt_or_ge t s with h2 | h2
   · rw [show (e-s-u).toNat=0 by omega,show (u-(e-s)).toNat=0+(s-t) by omega,Int.pow_zero,Int.mul_one]
     have:m*2^s=m*2^t*2^(s-t):=by rw [Int.mul_assoc,← Int.pow_add,show t+(s-t)=s by omega]
     rw [this,rnd_scale,rnd_zero]
   · rw [show (e-s-u).toNat=t-s by omega,show (u-(e-s)).toNat=0 by omega,rnd_zero,Int.mul_assoc,← Int.pow_add,show s+(t-s)=t by omega]
 · rw [show (e-u).toNat=0 by omega,show (e-s-u).toNat=0 by omega,Int.pow_zero,Int.mul_one,Int.mul_one,show (u-(e-s)).toNat=(u-e).toNat+s by omega,rnd_scale]
def Rd (m e:Int):Int:=if m≤0 then 0 else if un m e>971 then INF else (un m e+1074)*4503599627370496+ru m e (un m e)
theorem Rd_zero (e:Int):Rd 0 e=0:=by unfold Rd;rw [if_pos (by omega)]
theorem Rd_scale {m:Int} (h:0<m) (e:Int) (s:Nat):Rd (m*2^s) (e-s)=Rd m e:=by
 have:0<m*2^s:=Int.mul_pos h (pow_pos s)
 unfold Rd
 rw [if_neg (show ¬ m*2^s≤0 by omega),if_neg (show ¬ m≤0 by omega),un_scale h,ru_scale]

theorem le_of_div {X:Int} {g:Nat} (h:1≤X/2^g):2^g≤X:=by
 rw [Int.le_ediv_iff_mul_le (pow_pos g)] at h
 omega
theorem div_of_le {X:Int} {g:Nat} (h:2^g≤X):1≤X/2^g:=by
 rw [Int.le_ediv_iff_mul_le (pow_pos g)]
 omega
theorem un_cell {X Y c:Int} {g:Nat} (hX:0<X) (hY:0<Y) (hq:X/2^g=Y/2^g) (hu:c+g+1≤un X c):un X c=un Y c:=by
 have hp:=pow_pos g
 unfold un at *
 rcases Int.lt_or_le X (2^g) with h | h
 · have e1:X/2^g=0:=Int.ediv_eq_zero_of_lt (by omega) h
   have h2:Y<2^g:=by
    rcases Int.lt_or_le Y (2^g) with h' | h'
    · exact h'
    · have:=div_of_le h'
      omega
   have b1:=bl_le_of h
   have b2:=bl_le_of h2
   omega
 · have h3:=div_of_le h
   rw [hq] at h3
   rw [bl_shr h,bl_shr (le_of_div h3),hq]
theorem half_cmp {G κ H x:Int} (hG:0<G) (h0:0≤x) (h1:x<G):(2*(G*κ+x)>G*(2*H)↔(κ>H∨(κ=H∧x≠0)))∧(2*(G*κ+x)=G*(2*H)↔(κ=H∧x=0)):=by
 rw [show G*(2*H)=2*(G*H) from Int.mul_left_comm ..]
 rcases Int.lt_trichotomy κ H with h | h | h
 · have:=Int.mul_le_mul_of_nonneg_left (show κ+1≤H by omega) (Int.le_of_lt hG)
   rw [Int.mul_add,Int.mul_one] at this
   omega
 · subst h
   omega
 · have:=Int.mul_le_mul_of_nonneg_left (show H+1≤κ by omega) (Int.le_of_lt hG)
   rw [Int.mul_add,Int.mul_one] at this
   omega
theorem rnd_cell {X Y:Int} {d g:Nat} (hgd:g+1≤d) (hq:X/2^g=Y/2^g) (hz:X%2^g=0↔Y%2^g=0):rnd X d=rnd Y d:=by
 obtain ⟨j,rfl⟩ : ∃ j,d=g+(j+1):=⟨d-g-1,by omega⟩
 have hG:=pow_pos g
 have e:(2:Int)^(g+(j+1))=2^g*(2*2^j):=by rw [Int.pow_add,Int.pow_succ,Int.mul_comm (2^j)]
 unfold rnd
 have ex:X/(2^g*(2*2^j))=X/2^g/(2*2^j):=(Int.ediv_ediv_of_nonneg (by omega)).symm
 have ey:Y/(2^g*(2*2^j))=Y/2^g/(2*2^j):=(Int.ediv_ediv_of_nonneg (by omega)).symm
 rw [e,mod_split X hG,mod_split Y hG,ex,ey,hq]
 have hx:=half_cmp (κ:=Y/2^g%(2*2^j)) (H:=2^j) hG (Int.emod_nonneg X (show (2:Int)^g≠0 by omega)) (Int.emod_lt_of_pos X hG)
 have hy:=half_cmp (κ:=Y/2^g%(2*2^j)) (H:=2^j) hG (Int.emod_nonneg Y (show (2:Int)^g≠0 by omega)) (Int.emod_lt_of_pos Y hG)
 simp only [hx.1,hx.2,hy.1,hy.2,ne_eq,hz]
theorem Rd_cell {X Y c:Int} {g:Nat} (hX:0<X) (hY:0<Y) (hq:X/2^g=Y/2^g) (hz:X%2^g=0↔Y%2^g=0) (hu:c+g+1≤un X c):Rd X c=Rd Y c:=by
 have e:=un_cell hX hY hq hu
 unfold Rd
 rw [if_neg (show ¬ X≤0 by omega),if_neg (show ¬ Y≤0 by omega),← e]
 split
 · rfl
 · congr 1
   unfold ru
   rw [show (c-un X c).toNat=0 by omega,Int.pow_zero,Int.mul_one,Int.mul_one]
   exact rnd_cell (g:=g) (by omega) hq hz
def st (M:Int) (s:Nat):Int:=if M%2^s=0 then M/2^s else M/2^s/2*2+1
theorem st_zero (M:Int):st M 0=M:=by unfold st;rw [Int.pow_zero,Int.emod_one,if_pos rfl,Int.ediv_one]
theorem st_nonneg {M:Int} (h:0≤M) (s:Nat):0≤st M s:=by
 have:=Int.ediv_nonneg h (Int.le_of_lt (pow_pos s))
 unfold st
 split<;>omega
theorem st_pos {M:Int} (h:0<M) (s:Nat):0<st M s:=by
 have:=Int.ediv_nonneg (Int.le_of_lt h) (Int.le_of_lt (pow_pos s))
 have hd:=Int.mul_ediv_add_emod M (2^s)
 unfold st
 split
 · rename_i hz
   rcases (show M/2^s=0∨0<M/2^s by omega) with h1 | h1
   · rw [h1,hz,Int.mul_zero] at hd
     omega
   · exact h1
 · omega
theorem st_cell (M:Int) (s:Nat):(st M s*2^s)/2^(s+1)=M/2^(s+1)∧((st M s*2^s)%2^(s+1)=0↔M%2^(s+1)=0):=by
 have hG:=pow_pos s
 have hr:=Int.emod_nonneg M (show (2:Int)^s≠0 by omega)
 have e1:st M s*2^s/2^s=st M s:=Int.mul_ediv_cancel _ (by omega)
 have e2:st M s*2^s%2^s=0:=Int.mul_emod_left ..
 rw [Int.pow_succ,mod_split _ hG,mod_split M hG,← Int.ediv_ediv_of_nonneg (by omega),← Int.ediv_ediv_of_nonneg (by omega),e1,e2]
 have hk : ∀ k:Int,k=0∨k=1→(2^s*k=0↔k=0):=by
  intro k hk
  rcases hk with rfl | rfl
  · simp
  · rw [Int.mul_one];omega
 have k1:=hk (st M s%2) (by omega)
 have k2:=hk (M/2^s%2) (by omega)
 have p2:0≤2^s*(M/2^s%2):=Int.mul_nonneg (by omega) (by omega)
 unfold st at *
 split
 · rename_i hz
   rw [if_pos hz] at k1
   constructor<;>omega
 · rename_i hz
   rw [if_neg hz] at k1
   constructor<;>omega
theorem Rd_st {M e:Int} {s:Nat} (hM:0<M) (hu:e+s+2≤un M e):Rd (st M s) (e+s)=Rd M e:=by
 have h1:=st_pos hM s
 have h2:=st_cell M s
 have h3:=Rd_scale h1 (e+s) s
 rw [show e+(s:Int)-s=e by omega] at h3
 rw [← h3]
 exact (Rd_cell (g:=s+1) hM (Int.mul_pos h1 (pow_pos s)) h2.1.symm h2.2.symm (by omega)).symm

theorem un_q {m e:Int} (h:0<m):0≤m*2^(e-un m e).toNat/2^(un m e-e).toNat∧m*2^(e-un m e).toNat/2^(un m e-e).toNat<9007199254740992∧(un m e= -1074∨4503599627370496≤m*2^(e-un m e).toNat/2^(un m e-e).toNat):=by
 have hu:un m e=max (bl m+e-53) (-1074):=rfl
 have hb:=bl_shl h (e-un m e).toNat
 have hM:0<m*2^(e-un m e).toNat:=Int.mul_pos h (pow_pos _)
 have a1:=bl_lt (m*2^(e-un m e).toNat)
 have a2:=bl_le hM
 have a3:=bl_pos hM
 have hp:=pow_pos (un m e-e).toNat
 generalize un m e=u at *
 generalize m*2^(e-u).toNat=M at *
 have q0:0≤M/2^(u-e).toNat:=Int.ediv_nonneg (by omega) (by omega)
 have q1:M/2^(u-e).toNat<9007199254740992:=by
  rw [Int.ediv_lt_iff_lt_mul hp,show (9007199254740992:Int)=2^53 from rfl,← Int.pow_add]
  have:=pow_le_pow (a:=(bl M).toNat) (b:=53+(u-e).toNat) (by omega)
  omega
 refine ⟨q0,q1, ?_⟩
 rcases (show u= -1074∨u=bl m+e-53 by omega) with h1 | h1
 · exact .inl h1
 · refine .inr ?_
   rw [Int.le_ediv_iff_mul_le hp,show (4503599627370496:Int)=2^52 from rfl,← Int.pow_add]
   have:=pow_le_pow (a:=52+(u-e).toNat) (b:=(bl M-1).toNat) (by omega)
   omega
theorem ru_units {m e:Int} (h:0<m):0≤ru m e (un m e)∧ru m e (un m e)≤9007199254740992∧(un m e= -1074∨4503599627370496≤ru m e (un m e)):=by
 have q:=un_q (e:=e) h
 have r:=rnd_le (m*2^(e-un m e).toNat) (un m e-e).toNat
 unfold ru
 omega
theorem Rd_range (m e:Int):0≤Rd m e∧Rd m e≤INF:=by
 unfold Rd INF
 split
 · omega
 · split
   · omega
   · have:=ru_units (m:=m) (e:=e) (by omega)
     have:=un_ge m e
     omega
def Mk (neg:Bool) (m e:Int):Int × Bool :=
 if m=0 then (sgn neg 0,true) else
  if un m e>971∨m*2^(e-un m e).toNat%2^(un m e-e).toNat≠0 then (0,false) else (sgn neg (Rd m e),true)
theorem Mk_zero (neg:Bool) (e:Int):Mk neg 0 e=(sgn neg 0,true):=by unfold Mk;rw [if_pos rfl]
theorem Mk_no (neg:Bool) {m e:Int} (h:m≠0) (hc:un m e>971∨m*2^(e-un m e).toNat%2^(un m e-e).toNat≠0):Mk neg m e=(0,false):=by
 unfold Mk
 rw [if_neg h,if_pos hc]
theorem Mk_yes (neg:Bool) {m e:Int} (h:m≠0) (h1:un m e≤971) (h2:m*2^(e-un m e).toNat%2^(un m e-e).toNat=0):Mk neg m e=(sgn neg (Rd m e),true):=by
 unfold Mk
 rw [if_neg h,if_neg (by rw [not_or];exact ⟨by omega,fun k=>k h2⟩)]
theorem Rd_exact {m e:Int} (h:0<m) (h1:un m e≤971) (h2:m*2^(e-un m e).toNat%2^(un m e-e).toNat=0):Rd m e=(un m e+1074)*4503599627370496+m*2^(e-un m e).toNat/2^(un m e-e).toNat:=by
 unfold Rd ru
 rw [if_neg (by omega),if_neg (by omega),rnd_exact h2]
theorem un_bl {m e:Int} {n:Nat} (h1:2^n≤m) (h2:m<2^(n+1)):un m e=max ((n:Int)+e-52) (-1074):=by
 unfold un
 rw [bl_eq h1 h2]
 congr 1
 omega
theorem Rd_made {w u:Int} (h0:0<w) (h1:w≤9007199254740992) (hu0 : -1074≤u) (hu1:u≤971) (hw:u= -1074∨4503599627370496≤w) :
 (w<9007199254740992→un w u=u)∧(w=9007199254740992→un w u=u+1)∧(un w u≤971→w*2^(u-un w u).toNat%2^(un w u-u).toNat=0)∧Rd w u=(u+1074)*4503599627370496+w:=by
 have key:(w<9007199254740992→un w u=u)∧(w=9007199254740992→un w u=u+1):=by
  constructor
  · intro h
    rcases Int.lt_or_le w 4503599627370496 with h2 | h2
    · have:=bl_le_of (x:=w) (n:=52) h2
      unfold un
      omega
    · rw [un_bl (n:=52) h2 h]
      omega
  · intro h
    rw [un_bl (n:=53) (by omega) (by omega)]
    omega
 refine ⟨key.1,key.2, ?_⟩
 rcases (show w<9007199254740992∨w=9007199254740992 by omega) with h | h
 · have e:=key.1 h
   rw [e]
   have e2:w*2^(u-u).toNat%2^(u-u).toNat=0:=by
    rw [show (u-u).toNat=0 by omega,Int.pow_zero,Int.emod_one]
   refine ⟨fun _=>e2, ?_⟩
   rw [Rd_exact h0 (by omega) (by rw [e];exact e2),e,show (u-u).toNat=0 by omega,Int.pow_zero,Int.mul_one,Int.ediv_one]
 · have e:=key.2 h
   rw [e]
   have e2:w*2^(u-(u+1)).toNat%2^(u+1-u).toNat=0:=by
    rw [show (u-(u+1)).toNat=0 by omega,show (u+1-u).toNat=1 by omega,h]
    rfl
   refine ⟨fun _=>e2, ?_⟩
   rcases (show u=971∨u+1≤971 by omega) with h3 | h3
   · unfold Rd INF
     rw [if_neg (by omega),if_pos (by omega)]
     omega
   · rw [Rd_exact h0 (by omega) (by rw [e];exact e2),e,show (u-(u+1)).toNat=0 by omega,show (u+1-u).toNat=1 by omega,h]
     simp only [Int.pow_zero,Int.mul_one,Int.pow_one]
     omega
theorem Mk_made {neg:Bool} {w u:Int} (h0:0≤w) (h1:w≤9007199254740992) (hu0 : -1074≤u) (hu1:u≤971) (hw:u= -1074∨4503599627370496≤w) :
 (if (Mk neg w u).2 then (Mk neg w u).1 else sgn neg INF)=sgn neg ((u+1074)*4503599627370496+w):=by
 rcases (show w=0∨0<w by omega) with rfl | h
 · rw [Mk_zero]
   obtain rfl:u= -1074:=by omega
   rfl
 · obtain ⟨k1,k2,k3,k4⟩:=Rd_made h h1 hu0 hu1 hw
   by_cases hc:un w u>971
   · rw [Mk_no neg (by omega) (.inl hc)]
     have hw2:w=9007199254740992:=by omega
     have hu2:u=971:=by omega
     rw [hw2,hu2]
     rfl
   · rw [Mk_yes neg (by omega) (by omega) (k3 (by omega)),k4]
     rfl
theorem fx_range {b:Int} :0≤fx b∧fx b<2048:=by unfold fx;omega
theorem fr_range {b:Int} :0≤fr b∧fr b<4503599627370496:=by unfold fr;omega
theorem pm_range (b:Int):0≤pm b∧pm b<9007199254740992:=by
 have:= @fr_range b
 unfold pm
 split<;>omega
theorem pe_range (b:Int) : -1074≤pe b∧pe b≤972∧(fx b≠2047→pe b≤971)∧(pe b= -1074∨4503599627370496≤pm b):=by
 have:= @fx_range b
 have:= @fr_range b
 unfold pe pm
 split<;>omega
theorem word_parts {b:Int} (h:U b):b=sgn (fs b) (fx b*4503599627370496+fr b):=by
 unfold U at h
 unfold sgn fs fx fr
 by_cases hb:b≥9223372036854775808
 · rw [decide_eq_true hb,if_pos rfl];omega
 · rw [decide_eq_false hb,if_neg (by decide)];omega
theorem Rd_parts {b:Int} (hb:fx b≠2047):Rd (pm b) (pe b)=fx b*4503599627370496+fr b:=by
 have h1:= @fx_range b
 have h2:= @fr_range b
 have h3:=pm_range b
 have h4:=pe_range b
 have h5:(pe b+1074)*4503599627370496+pm b=fx b*4503599627370496+fr b:=by
  unfold pe pm
  split<;>omega
 rcases (show pm b=0∨0<pm b by omega) with h | h
 · rw [h,Rd_zero]
   omega
 · rw [(Rd_made h (by omega) h4.1 (h4.2.2.1 hb) h4.2.2.2).2.2.2,h5]
theorem fk_eq (b:Int):(fk b=4↔fx b=2047∧fr b≠0)∧(fk b=3↔fx b=2047∧fr b=0)∧(fk b=0↔fx b=0∧fr b=0)∧(fk b=0↔fx b≠2047∧pm b=0)∧0≤fk b∧fk b≤4:=by
 have h2:= @fr_range b
 unfold fk pm
 by_cases c1:fx b=2047
 · rw [if_pos c1]
   by_cases c2:fr b=0
   · rw [if_pos c2];omega
   · rw [if_neg c2];omega
 · rw [if_neg c1]
   by_cases c3:fx b=0
   · rw [if_pos c3,if_pos c3]
     by_cases c2:fr b=0
     · rw [if_pos c2];omega
     · rw [if_neg c2];omega
   · rw [if_neg c3,if_neg c3];omega
theorem fk_fin {b:Int} (h4:fk b≠4) (h3:fk b≠3):fx b≠2047:=by
 have:=fk_eq b
 omega
theorem cell_neg {a b G:Int} (hG:0<G) (hq:a/G=b/G) (hz:a%G=0↔b%G=0):(-a)/G=(-b)/G∧((-a)%G=0↔(-b)%G=0):=by
 have key : ∀ x:Int,(x%G=0→(-x)/G= -(x/G)∧(-x)%G=0)∧(x%G≠0→(-x)/G= -(x/G)-1∧(-x)%G=G-x%G):=by
  intro x
  have h1:=Int.mul_ediv_add_emod x G
  have h2:=Int.emod_nonneg x (show G≠0 by omega)
  have h3:=Int.emod_lt_of_pos x hG
  constructor
  · intro h
    exact (Int.ediv_emod_unique hG).2 ⟨by rw [Int.mul_neg];omega,by omega,by omega⟩
  · intro h
    exact (Int.ediv_emod_unique hG).2 ⟨by rw [Int.mul_sub,Int.mul_neg,Int.mul_one];omega,by omega,by omega⟩
 have ka:=key a
 have kb:=key b
 have b3:=Int.emod_lt_of_pos b hG
 have a3:=Int.emod_lt_of_pos a hG
 by_cases h:a%G=0
 · have h':=hz.1 h
   exact ⟨by rw [(ka.1 h).1,(kb.1 h').1,hq],by simp [(ka.1 h).2,(kb.1 h').2]⟩
 · have h':=fun k=>h (hz.2 k)
   refine ⟨by rw [(ka.2 h).1,(kb.2 h').1,hq], ?_⟩
   rw [(ka.2 h).2,(kb.2 h').2]
   omega
theorem cell_add {a b G:Int} (K:Int) (hq:a/G=b/G) (hz:a%G=0↔b%G=0) (hG:0<G):(G*K+a)/G=(G*K+b)/G∧((G*K+a)%G=0↔(G*K+b)%G=0):=by
 rw [Int.add_comm (G*K),Int.add_comm (G*K),Int.add_mul_ediv_left _ _ (by omega),Int.add_mul_ediv_left _ _ (by omega),Int.add_mul_emod_self_left,Int.add_mul_emod_self_left]
 exact ⟨by rw [hq],hz⟩
theorem st_le {n:Int} (h0:0≤n) (s:Nat):st n s≤n/2^s+1:=by
 unfold st
 split<;>omega
theorem sum_st {m e n f:Int} (hm0:0≤m) (hm:m<9007199254740992) (hn0:0≤n) (hn:n<9007199254740992) (hef:f≤e) (hf : -1074≤f) (hw:e= -1074∨4503599627370496≤m) {up s:Nat} (hup:(up:Int)=min (e-f) 10) (hs:e-up-f=s) :
 Rd (m*2^up+st n s) (e-up)=Rd (m*2^(e-f).toNat+n) f ∧
 (m*2^up>st n s↔m*2^(e-f).toNat>n)∧(m*2^up<st n s↔m*2^(e-f).toNat<n) ∧
 (m*2^up>st n s→Rd (m*2^up-st n s) (e-up)=Rd (m*2^(e-f).toNat-n) f) ∧
 (m*2^up<st n s→Rd (st n s-m*2^up) (e-up)=Rd (n-m*2^(e-f).toNat) f):=by
 rcases (show s=0∨0<s by omega) with rfl | hs0
 · rw [st_zero,show (e-f).toNat=up by omega,show e-(up:Int)=f by omega]
   exact ⟨rfl,Iff.rfl,Iff.rfl,fun _=>rfl,fun _=>rfl⟩
 · obtain rfl:up=10:=by omega
   have hm2:4503599627370496≤m:=by omega
   have hG:(0:Int)<2^s:=pow_pos s
   have hG2:(0:Int)<2^(s+1):=pow_pos _
   have hge:(2:Int)≤2^s:=by
    have:=pow_le_pow (a:=1) (b:=s) (by omega)
    omega
   have eX:m*2^(e-f).toNat=2^(s+1)*(m*512):=by
    rw [show (e-f).toNat=s+1+9 by omega,Int.pow_add]
    generalize (2:Int)^(s+1)=G
    rw [show (2:Int)^9=512 from rfl]
    grind
   have hY:=st_le hn0 s
   have hY0:=st_nonneg hn0 s
   have hYn:n/2^s≤n:=Int.ediv_le_self _ hn0
   have hc:=st_cell n s
   have hcn:=cell_neg hG2 hc.1 hc.2
   have ca:=cell_add (m*512) hc.1 hc.2 hG2
   have cn:=cell_add (m*512) hcn.1 hcn.2 hG2
   have hX:4503599627370496*512*2^(s+1)≤2^(s+1)*(m*512):=by
    rw [Int.mul_comm]
    exact Int.mul_le_mul_of_nonneg_left (by omega) (by omega)
   have ee:e-((10:Nat):Int)=f+s:=by omega
   have e10:m*2^10=m*1024:=rfl
   rw [ee,eX,e10]
   have p1:(2:Int)^(s+1)=2^s*2:=Int.pow_succ ..
   have s1:(m*1024+st n s)*2^s=2^(s+1)*(m*512)+st n s*2^s:=by rw [p1];grind
   have s2:(m*1024-st n s)*2^s=2^(s+1)*(m*512)+ -(st n s*2^s):=by rw [p1];grind
   have u1 : ∀ M:Int,4503599627370496*511*2^(s+1)≤M→f+((s+1:Nat):Int)+1≤un M f:=by
    intro M h
    have:(2:Int)^(60+(s+1))≤M:=by
     rw [Int.pow_add]
     have:(2:Int)^60*2^(s+1)≤4503599627370496*511*2^(s+1):=Int.mul_le_mul_of_nonneg_right (by decide) (by omega)
     omega
    have:=bl_ge' this
    unfold un
    omega
   have hbig:(4503599627370496:Int)*2≤4503599627370496*2^(s+1):=by omega
   have gt1:m*1024>st n s:=by omega
   have gt2:2^(s+1)*(m*512)>n:=by omega
   refine ⟨?_,by omega,by omega,fun _=> ?_,fun h=>by omega⟩
   · rw [← Rd_scale (show 0<m*1024+st n s by omega) (f+s) s,show f+(s:Int)-s=f by omega,s1]
     exact (Rd_cell (g:=s+1) (by omega) (by have:=Int.mul_nonneg hY0 (Int.le_of_lt hG);omega) ca.1.symm ca.2.symm (u1 _ (by omega))).symm
   · rw [← Rd_scale (show 0<m*1024-st n s by omega) (f+s) s,show f+(s:Int)-s=f by omega,s2,show 2^(s+1)*(m*512)-n=2^(s+1)*(m*512)+ -n by omega]
     have pos:0<2^(s+1)*(m*512)+ -(st n s*2^s):=by rw [← s2];exact Int.mul_pos (by omega) hG
     exact (Rd_cell (g:=s+1) (by omega) pos cn.1.symm cn.2.symm (u1 _ (by omega))).symm
def fsF (a b:Int):Int :=
 if fs a=fs b then sgn (fs a) (Rd (pm a*2^(pe a-min (pe a) (pe b)).toNat+pm b*2^(pe b-min (pe a) (pe b)).toNat) (min (pe a) (pe b)))
 else if pm a*2^(pe a-min (pe a) (pe b)).toNat=pm b*2^(pe b-min (pe a) (pe b)).toNat then 0
 else if pm a*2^(pe a-min (pe a) (pe b)).toNat>pm b*2^(pe b-min (pe a) (pe b)).toNat then sgn (fs a) (Rd (pm a*2^(pe a-min (pe a) (pe b)).toNat-pm b*2^(pe b-min (pe a) (pe b)).toNat) (min (pe a) (pe b)))
 else sgn (fs b) (Rd (pm b*2^(pe b-min (pe a) (pe b)).toNat-pm a*2^(pe a-min (pe a) (pe b)).toNat) (min (pe a) (pe b)))
theorem fsF_comm (a b:Int):fsF a b=fsF b a:=by
 unfold fsF
 rw [show min (pe b) (pe a)=min (pe a) (pe b) by omega]
 generalize pm a*2^(pe a-min (pe a) (pe b)).toNat=X
 generalize pm b*2^(pe b-min (pe a) (pe b)).toNat=Y
 by_cases h:fs a=fs b
 · rw [if_pos h,if_pos h.symm,h,Int.add_comm]
 · have h' : ¬ fs b=fs a:=fun k=>h k.symm
   rw [if_neg h,if_neg h']
   rcases Int.lt_trichotomy X Y with h1 | h1 | h1
   · rw [if_neg (show ¬ X=Y by omega),if_neg (show ¬ X>Y by omega),if_neg (show ¬ Y=X by omega),if_pos (show Y>X from h1)]
   · rw [if_pos h1,if_pos h1.symm]
   · rw [if_neg (show ¬ X=Y by omega),if_pos (show X>Y from h1),if_neg (show ¬ Y=X by omega),if_neg (show ¬ Y>X by omega)]
def fadd (a b:Int):Int:=if fk a=4∨fk b=4 then NAN else if fk a=3∧fk b=3∧a≠b then NAN else if fk a=3 then a else if fk b=3 then b else fsF a b
def fl (b:Int):Int:=if fk b=4 then NAN else (b+9223372036854775808)%18446744073709551616
def cl (b:Int):Int:=if fk b=4 then NAN else b
theorem fl_parts {b:Int} (h:U b):fx ((b+9223372036854775808)%18446744073709551616)=fx b∧fr ((b+9223372036854775808)%18446744073709551616)=fr b∧fs ((b+9223372036854775808)%18446744073709551616)= !fs b:=by
 unfold U at h
 unfold fx fr fs
 refine ⟨by omega,by omega, ?_⟩
 by_cases hb:b≥9223372036854775808
 · rw [decide_eq_true hb,decide_eq_false (by omega)];rfl
 · rw [decide_eq_false hb,decide_eq_true (by omega)];rfl
theorem fl_more {b:Int} (h:U b):fk ((b+9223372036854775808)%18446744073709551616)=fk b∧pm ((b+9223372036854775808)%18446744073709551616)=pm b∧pe ((b+9223372036854775808)%18446744073709551616)=pe b:=by
 obtain ⟨h1,h2,h3⟩:=fl_parts h
 unfold fk pm pe
 rw [h1,h2]
 exact ⟨rfl,rfl,rfl⟩
theorem fl_U (b:Int):U (fl b):=by unfold fl NAN U;split<;>omega
theorem sgn_parts {x:Int} (h0:0≤x) (h1:x<9223372036854775808) (neg:Bool):U (sgn neg x)∧fs (sgn neg x)=neg∧fx (sgn neg x)=x/4503599627370496∧fr (sgn neg x)=x%4503599627370496:=by
 unfold sgn U fs fx fr
 cases neg
 · simp only [Bool.false_eq_true,if_false]
   exact ⟨by omega,decide_eq_false (by omega),by omega,by first | trivial | omega⟩
 · simp only [if_true]
   exact ⟨by omega,decide_eq_true (by omega),by omega,by omega⟩
theorem sgn_fk {x:Int} (h0:0≤x) (h1:x≤INF) (neg:Bool):fk (sgn neg x)≠4∧(fk (sgn neg x)=3↔x=INF)∧(fk (sgn neg x)=0↔x=0):=by
 unfold INF at h1
 obtain ⟨_,_,h2,h3⟩:=sgn_parts h0 (by omega) neg
 have k:=fk_eq (sgn neg x)
 unfold INF
 omega
theorem fsF_U (a b:Int):U (fsF a b):=by
 have key : ∀ (n:Bool) (m e:Int),U (sgn n (Rd m e)):=fun n m e=>(sgn_parts (Rd_range m e).1 (by have:=(Rd_range m e).2;unfold INF at this;omega) n).1
 unfold fsF
 split
 · exact key ..
 · split
   · unfold U;omega
   · split
     · exact key ..
     · exact key ..
theorem fadd_U {a b:Int} (ha:U a) (hb:U b):U (fadd a b):=by
 have:U NAN:=by unfold U NAN;omega
 unfold fadd
 split
 · exact this
 · split
   · exact this
   · split
     · exact ha
     · split
       · exact hb
       · exact fsF_U a b
def fsub (a b:Int):Int:=fadd a (fl b)

def fmul (a b:Int):Int:=if fk a=4∨fk b=4∨(fk a=3∧fk b=0)∨(fk a=0∧fk b=3) then NAN else if fk a=3∨fk b=3 then sgn (fs a !=fs b) INF else sgn (fs a !=fs b) (Rd (pm a*pm b) (pe a+pe b))
theorem sgnRd_U (n:Bool) (m e:Int):U (sgn n (Rd m e)):=(sgn_parts (Rd_range m e).1 (by have:=(Rd_range m e).2;unfold INF at this;omega) n).1
theorem sgnINF_U (n:Bool):U (sgn n INF):=(sgn_parts (x:=INF) (by decide) (by decide) n).1
theorem NAN_U:U NAN:=by unfold U NAN;omega
theorem fmul_U (a b:Int):U (fmul a b):=by
 unfold fmul
 split
 · exact NAN_U
 · split
   · exact sgnINF_U _
   · exact sgnRd_U ..
def qd (m e n f:Int):Int :=
 if m*2^(63-bl m).toNat*18446744073709551616%(n*2^(64-bl n).toNat)=0 then Rd (m*2^(63-bl m).toNat*18446744073709551616/(n*2^(64-bl n).toNat)) (e-f+bl m-bl n-63)
 else Rd (2*(m*2^(63-bl m).toNat*18446744073709551616/(n*2^(64-bl n).toNat))+1) (e-f+bl m-bl n-64)
theorem qd_range (m e n f:Int):0≤qd m e n f∧qd m e n f≤INF:=by unfold qd;split<;>exact Rd_range ..
def fdiv (a b:Int):Int:=if fk a=4∨fk b=4∨(fk a=3∧fk b=3)∨(fk a=0∧fk b=0) then NAN else if fk a=3∨fk b=0 then sgn (fs a !=fs b) INF else if fk a=0∨fk b=3 then sgn (fs a !=fs b) 0 else sgn (fs a !=fs b) (qd (pm a) (pe a) (pm b) (pe b))
theorem fdiv_U (a b:Int):U (fdiv a b):=by
 unfold fdiv
 split
 · exact NAN_U
 · split
   · exact sgnINF_U _
   · split
     · exact (sgn_parts (x:=0) (by decide) (by decide) _).1
     · exact (sgn_parts (qd_range ..).1 (by have:=(qd_range (pm a) (pe a) (pm b) (pe b)).2;unfold INF at this;omega) _).1
theorem qd_code {q E:Int} (h:4611686018427387904≤q):Rd (q/2*2+1) E=Rd (2*q+1) (E-1):=by
 rw [← Rd_scale (show 0<q/2*2+1 by omega) E 1,Int.pow_one,show E-((1:Nat):Int)=E-1 from rfl]
 refine Rd_cell (g:=2) (by omega) (by omega) (by omega) (by omega) ?_
 have:=bl_ge' (x:=(q/2*2+1)*2) (n:=55) (by omega)
 unfold un
 omega
theorem and_top {x:Int} (h:U x):Go.bits .and .u64 x 9223372036854775808=x/9223372036854775808*9223372036854775808:=by
 obtain ⟨h0,h1⟩:=h
 obtain ⟨a,rfl⟩:=Int.eq_ofNat_of_zero_le h0
 have e:=and_nat a (2^63) (by omega) (by decide)
 rw [show (9223372036854775808:Int)=((2^63:Nat):Int) from rfl,e]
 rcases Nat.lt_or_ge a (2^63) with h2 | h2
 · have:a &&& 2^63=0:=by
    refine Nat.eq_of_testBit_eq fun i=> ?_
    rw [Nat.testBit_and,Nat.testBit_two_pow,Nat.zero_testBit]
    by_cases hi:63=i
    · subst hi
      rw [Nat.testBit_lt_two_pow h2]
      simp
    · simp [hi]
   rw [this]
   omega
 · obtain ⟨b,rfl⟩ : ∃ b,a=b+2^63:=⟨a-2^63,by omega⟩
   have e2:=Nat.two_pow_add_eq_or_of_lt (show b<2^63 by omega) 1
   rw [Nat.mul_one] at e2
   have:(b+2^63) &&& 2^63=2^63:=by
    rw [Nat.add_comm,e2]
    refine Nat.eq_of_testBit_eq fun i=> ?_
    rw [Nat.testBit_and,Nat.testBit_or,Nat.testBit_two_pow]
    by_cases hi:63=i<;>simp [hi]
   rw [this]
   omega
theorem or_top {x:Int} (h0:0≤x) (h1:x<9223372036854775808):Go.bits .or .u64 x 9223372036854775808=x+9223372036854775808:=by
 rw [or_comm _ _ h0 (by omega) (by omega) (by omega),or_join 63 _ _ (by omega) (by omega) (by omega) h0 (by omega) (by omega)]
 omega
theorem xor_low (a:Nat) (h:a<2^63):a ^^^ 2^63=a+2^63:=by
 have e:=Nat.two_pow_add_eq_or_of_lt h 1
 rw [Nat.mul_one] at e
 rw [Nat.add_comm,e]
 refine Nat.eq_of_testBit_eq fun i=> ?_
 rw [Nat.testBit_xor,Nat.testBit_or,Nat.testBit_two_pow]
 by_cases hi:63=i
 · subst hi
   rw [Nat.testBit_lt_two_pow h]
   simp
 · simp [hi]
theorem xor_top {x:Int} (h:U x):Go.bits .xor .u64 x 9223372036854775808=(x+9223372036854775808)%18446744073709551616:=by
 obtain ⟨h0,h1⟩:=h
 obtain ⟨a,rfl⟩:=Int.eq_ofNat_of_zero_le h0
 have ha:a<2^64:=by omega
 have e1:Go.bits .xor .u64 (a:Int) 9223372036854775808=IntKind.u64.wrap ((a ^^^ 2^63:Nat):Int):=by
  rw [show (9223372036854775808:Int)=((2^63:Nat):Int) from rfl]
  simp only [Go.bits,BitVec.ofInt_natCast,BitVec.toNat_xor,BitVec.toNat_ofNat]
  rw [show IntKind.bits .u64=64 from rfl,Nat.mod_eq_of_lt ha,Nat.mod_eq_of_lt (show 2^63<2^64 by decide)]
 rw [e1,wu]
 rcases Nat.lt_or_ge a (2^63) with h2 | h2
 · rw [xor_low a h2]
   omega
 · obtain ⟨b,rfl⟩ : ∃ b,a=b+2^63:=⟨a-2^63,by omega⟩
   rw [← xor_low b (by omega),Nat.xor_assoc,Nat.xor_self,Nat.xor_zero,xor_low b (by omega)]
   omega
theorem fbits_exponent_c {b:Int} (h:U b):fbits_exponent.f b=some (fx b):=by
 unfold U at h
 unfold fbits_exponent.f fx
 rw [and11 _ (by omega) (by omega),w64_id (by omega) (by omega)]
theorem fbits_Kind_c {b:Int} (h:U b):fbits_Kind.f b=some (fk b):=by
 unfold fbits_Kind.f
 rw [fbits_exponent_c h,and52 b h.1 h.2]
 show (if fx b=2047 then (if fr b=0 then some 3 else some 4) else if fx b=0 then (if fr b=0 then some 0 else some 1) else some 2)=some (fk b)
 unfold fk
 split
 · split<;>rfl
 · split
   · split<;>rfl
   · rfl
theorem fbits_Neg_c {b:Int} (h:U b):fbits_Neg.f b=some (fs b):=by
 unfold fbits_Neg.f
 rw [and_top h]
 unfold U at h
 unfold fs
 congr 1
 by_cases hb:b≥9223372036854775808
 · rw [decide_eq_true hb,bne_iff_ne];omega
 · rw [decide_eq_false hb,bne_eq_false_iff_eq];omega
theorem fbits_Parts_c {b:Int} (h:U b):Ev (fun k=>fbits_Parts.f k b) (if fx b=2047 then (false,0,0,false) else (fs b,pm b,pe b,true)):=by
 have hx:= @fx_range b
 have hr:= @fr_range b
 have hk:=fk_eq b
 have e52:Go.bits .and .u64 b 4503599627370495=fr b:=and52 b h.1 h.2
 refine Ev.bindc (fbits_Kind_c h) ?_
 rw [e52]
 have key : ∀ t:Bool,(t=true↔fx b=2047)→Ev (fun k=>fbits_Parts.j0 k b (fr b) (fk b) t) (if fx b=2047 then (false,0,0,false) else (fs b,pm b,pe b,true)):=by
  intro t ht
  refine Ev.eqv (fun k=>fbits_Parts.j0.eq_1 ..) ?_
  by_cases hc:fx b=2047
  · rw [if_pos hc]
    exact Ev.ifp (ht.2 hc) (Ev.same rfl)
  · rw [if_neg hc]
    refine Ev.ifn (fun k=>hc (ht.1 k)) ?_
    have hk2:fk b=2↔fx b≠0:=by
     unfold fk
     rw [if_neg hc]
     by_cases h0:fx b=0
     · rw [if_pos h0]
       split<;>omega
     · rw [if_neg h0];omega
    unfold pm pe
    by_cases h0:fx b=0
    · rw [if_pos h0,if_pos h0]
      exact Ev.ifn (by omega) (Ev.bindc (fbits_Neg_c h) (Ev.same rfl))
    · rw [if_neg h0,if_neg h0]
      refine Ev.ifp (by omega) (Ev.bindc (fbits_Neg_c h) (Ev.bindc (fbits_exponent_c h) (Ev.same ?_)))
      rw [w64_id (by omega) (by omega),or_comm _ _ (by omega) (by omega) (by omega) (by omega),or_join 52 _ _ (by omega) (by omega) (by omega) (by omega) (by omega) (by omega),Int.add_comm]
 by_cases h3:fk b=3
 · exact Ev.ifp h3 (key _ (by rw [h3];simp;omega))
 · refine Ev.ifn h3 (key _ ?_)
   rw [beq_iff_eq]
   omega
theorem fbits_signed_c {x:Int} (neg:Bool) (h0:0≤x) (h1:x<9223372036854775808):fbits_signed.f neg x=some (sgn neg x):=by
 unfold fbits_signed.f sgn
 rw [or_top h0 h1]
 cases neg<;>rfl
theorem fbits_Inf_c (neg:Bool):fbits_Inf.f neg=some (sgn neg INF):=by
 unfold fbits_Inf.f
 rw [fbits_signed_c neg (by decide) (by decide)]
 rfl
theorem fbits_Nan_c:fbits_Nan.f=some NAN:=rfl
theorem fbits_Clean_c {b:Int} (h:U b):fbits_Clean.f b=some (cl b):=by
 unfold fbits_Clean.f cl
 rw [fbits_Kind_c h]
 show (if fk b=4 then _ else _)=_
 split<;>rfl
theorem fbits_Flip_c {b:Int} (h:U b):fbits_Flip.f b=some (fl b):=by
 unfold fbits_Flip.f fl
 rw [fbits_Kind_c h,xor_top h]
 show (if fk b=4 then _ else _)=_
 split<;>rfl

theorem far_no {m u e:Int} (h0:0<m) (h1:m<18446744073709551616) (h:64≤u-e):m*2^(e-u).toNat%2^(u-e).toNat≠0:=by
 have:=pow_le_pow (a:=64) (b:=(u-e).toNat) (by omega)
 rw [show (e-u).toNat=0 by omega,Int.pow_zero,Int.mul_one,Int.emod_eq_of_lt (by omega) (by omega)]
 omega
theorem un_text {m e:Int} (hm:U m) (he : -5000≤e) (he':e≤5000):mx (wrap64 ((wrap64 (e+bl m))-53)) (-1074)=un m e:=by
 have h1:=bl_64 hm.2
 have h2:=bl_nonneg m
 rw [w64_id (n:=e+bl m) (by omega) (by omega),w64_id (by omega) (by omega)]
 unfold mx un
 generalize bl m=n at *
 split<;>omega
theorem fbits_Make_j2 {w u:Int} (neg:Bool) (h0:0≤w) (h1:w<9007199254740992) (hu0 : -1074≤u) (hu1:u≤971) (hw:u= -1074∨4503599627370496≤w) :
 Ev (fun k=>fbits_Make.j2 k neg w u) (sgn neg ((u+1074)*4503599627370496+w),true):=by
 refine Ev.eqv (fun k=>fbits_Make.j2.eq_1 ..) ?_
 by_cases h:w<4503599627370496
 · refine Ev.ifp h (Ev.bindc (fbits_signed_c neg h0 (by omega)) (Ev.same ?_))
   rw [show (u+1074)*4503599627370496+w=w by omega]
 · refine Ev.ifn h ?_
   rw [and52 w h0 (by omega),w64_id (by omega) (by omega),wu_id (n:=u+1075) (by omega) (by omega),wu_id (by omega) (by omega),or_join 52 _ _ (by omega) (by omega) (by omega) (by omega) (by omega) (by omega)]
   rw [show (u+1075)*4503599627370496+w%4503599627370496=(u+1074)*4503599627370496+w by omega]
   exact Ev.bindc (fbits_signed_c neg (by omega) (by omega)) (Ev.same rfl)
theorem fbits_Make_c {m e:Int} (neg:Bool) (hm:U m) (he0 : -9223372036854775808≤e) (he1:e≤9223372036854775807):Ev (fun k=>fbits_Make.f k neg m e) (Mk neg m e):=by
 obtain ⟨hm0,hm1⟩:=id hm
 have hu:un m e=max (bl m+e-53) (-1074):=rfl
 by_cases hz:m=0
 · refine Ev.ifp hz (Ev.bindc (fbits_signed_c neg (by omega) (by omega)) (Ev.same ?_))
   rw [hz,Mk_zero]
 · have hp:0<m:=by omega
   have b1:=bl_pos hp
   have b2:=bl_64 hm1
   refine Ev.ifn hz ?_
   by_cases h1:e>2000
   · refine Ev.ifp h1 (Ev.eqv (fun k=>fbits_Make.j0.eq_1 ..) (Ev.ifp rfl (Ev.same ?_)))
     rw [Mk_no neg hz (.inl (by omega))]
   · refine Ev.ifn h1 (Ev.eqv (fun k=>fbits_Make.j0.eq_1 ..) ?_)
     by_cases h2:e < -2000
     · refine Ev.ifp (decide_eq_true h2) (Ev.same ?_)
       rw [Mk_no neg hz (.inr (far_no hp hm1 (by omega)))]
     · refine Ev.ifn (by rw [decide_eq_false h2];decide) (Ev.bind (limb_Len_c hm) ?_)
       have hq:=un_q (e:=e) hp
       rw [un_text hm (by omega) (by omega),w64_id (by omega) (by omega)]
       by_cases h3:un m e>971
       · refine Ev.ifp h3 (Ev.eqv (fun k=>fbits_Make.j1.eq_1 ..) (Ev.ifp rfl (Ev.same ?_)))
         rw [Mk_no neg hz (.inl h3)]
       · refine Ev.ifn h3 (Ev.eqv (fun k=>fbits_Make.j1.eq_1 ..) ?_)
         by_cases h4:un m e-e≥64
         · refine Ev.ifp (decide_eq_true h4) (Ev.same ?_)
           rw [Mk_no neg hz (.inr (far_no hp hm1 (by omega)))]
         · refine Ev.ifn (by rw [decide_eq_false h4];decide) ?_
           by_cases h5:un m e-e>0
           · refine Ev.ifp h5 (Ev.ifp (by omega) ?_)
             obtain ⟨s,hs⟩ : ∃ s:Nat,un m e-e=s:=⟨(un m e-e).toNat,by omega⟩
             have hps:=pow_pos s
             have hd:=Int.mul_ediv_add_emod m (2^s)
             have hr:=Int.emod_nonneg m (show (2:Int)^s≠0 by omega)
             have hd0:0≤m/2^s:=Int.ediv_nonneg hm0 (by omega)
             have hd1:0≤m/2^s*2^s:=Int.mul_nonneg hd0 (by omega)
             have e0:m*2^(e-un m e).toNat=m:=by rw [show (e-un m e).toNat=0 by omega,Int.pow_zero,Int.mul_one]
             rw [Int.mul_comm] at hd
             rw [e0] at hq
             rw [hs] at hq ⊢
             rw [shr_u _ _ (by omega),shl_u _ _ (by omega)]
             rw [Int.toNat_natCast] at hq ⊢
             rw [Int.emod_eq_of_lt hd1 (by omega)]
             by_cases h6:m/2^s*2^s=m
             · refine Ev.ifp h6 ((fbits_Make_j2 neg hq.1 hq.2.1 (by omega) (by omega) hq.2.2).eqr ?_)
               have h7:m%2^s=0:=by omega
               rw [Mk_yes neg hz (by omega) (by rw [e0,hs,Int.toNat_natCast];exact h7),Rd_exact hp (by omega) (by rw [e0,hs,Int.toNat_natCast];exact h7),e0,hs,Int.toNat_natCast]
             · refine Ev.ifn h6 (Ev.same ?_)
               rw [Mk_no neg hz (.inr (by rw [e0,hs,Int.toNat_natCast];omega))]
           · refine Ev.ifn h5 ?_
             rw [w64_id (by omega) (by omega)]
             refine Ev.ifp (by omega) ?_
             obtain ⟨t,ht⟩ : ∃ t:Nat,-(un m e-e)=t:=⟨(-(un m e-e)).toNat,by omega⟩
             have e1:(e-un m e).toNat=t:=by omega
             have e2:(un m e-e).toNat=0:=by omega
             rw [e1,e2,Int.pow_zero,Int.ediv_one] at hq
             rw [ht,shl_u _ _ (by omega),Int.toNat_natCast,Int.emod_eq_of_lt hq.1 (by omega)]
             refine (fbits_Make_j2 neg hq.1 hq.2.1 (by omega) (by omega) hq.2.2).eqr ?_
             rw [Mk_yes neg hz (by omega) (by rw [e2,Int.pow_zero,Int.emod_one]),Rd_exact hp (by omega) (by rw [e2,Int.pow_zero,Int.emod_one]),e1,e2,Int.pow_zero,Int.ediv_one]

theorem ref09_Field_c {b:Int} (h:U b):gr09_Field.f b=some (fx b):=fbits_exponent_c h
theorem ref09_Rest_c {b:Int} (h:U b):gr09_Rest.f b=some (fr b):=by
 unfold gr09_Rest.f
 rw [and52 b h.1 h.2]
 rfl
theorem ref09_Kind_c {b:Int} (h:U b):gr09_Kind.f b=some (fk b):=by
 have hx:= @fx_range b
 have hr:= @fr_range b
 unfold gr09_Kind.f
 rw [ref09_Field_c h,ref09_Rest_c h]
 show (if fx b=2047 then (if fr b=0 then some 3 else some 4) else if fx b>0 then some 2 else if fr b>0 then some 1 else some 0)=some (fk b)
 unfold fk
 by_cases h1:fx b=2047
 · rw [if_pos h1,if_pos h1]
   split<;>rfl
 · rw [if_neg h1,if_neg h1]
   by_cases h2:fx b=0
   · rw [if_neg (show ¬ fx b>0 by omega),if_pos h2]
     by_cases h3:fr b=0
     · rw [if_neg (show ¬ fr b>0 by omega),if_pos h3]
     · rw [if_pos (show fr b>0 by omega),if_neg h3]
   · rw [if_pos (show fx b>0 by omega),if_neg h2]
theorem ref09_Neg_c {b:Int} (h:U b):gr09_Neg.f b=some (fs b):=by
 unfold U at h
 unfold gr09_Neg.f fs
 congr 1
 by_cases hb:b≥9223372036854775808
 · rw [decide_eq_true hb,beq_iff_eq];omega
 · rw [decide_eq_false hb,beq_eq_false_iff_ne];omega
theorem fround_made_c {w u:Int} (neg:Bool) (h0:0≤w) (h1:w≤9007199254740992) (hu0 : -1074≤u) (hu1:u≤971) (hw:u= -1074∨4503599627370496≤w) :
 Ev (fun k=>fround_made.f k neg w u) (sgn neg ((u+1074)*4503599627370496+w)):=by
 refine Ev.bind (fbits_Make_c neg (m:=w) (e:=u) (by unfold U;omega) (by omega) (by omega)) ?_
 have hk:=Mk_made (neg:=neg) h0 h1 hu0 hu1 hw
 by_cases h:(Mk neg w u).2=true
 · rw [if_pos h] at hk
   exact Ev.ifp h (Ev.same (congrArg some hk))
 · rw [if_neg h] at hk
   exact Ev.ifn h (Ev.bindc (fbits_Inf_c neg) (Ev.same (congrArg some hk)))
theorem fround_made_zero (neg:Bool):Ev (fun k=>fround_made.f k neg 0 0) (sgn neg 0):=by
 refine Ev.bind (fbits_Make_c neg (m:=0) (e:=0) (by unfold U;omega) (by omega) (by omega)) ?_
 rw [Mk_zero]
 exact Ev.ifp rfl (Ev.same rfl)
theorem fround_even_c {x:Int} (h0:0≤x) (h1:x<9223372036854775808) (half more:Bool):fround_even.f x half more=some (if half=true∧(more=true∨x%2=1) then x+1 else x):=by
 unfold fround_even.f
 rw [and1 x h0 (by omega),wu_id (by omega) (by omega)]
 cases half
 · simp
 · cases more
   · simp only [Bool.false_eq_true,if_true,if_false,false_or,true_and]
     split<;>rfl
   · simp
def ce (e:Int):Int:=mn (mx e (-1099511627776)) 1099511627776
theorem ce_range (e:Int) : -1099511627776≤ce e∧ce e≤1099511627776:=by
 unfold ce mn mx
 split<;>split<;>omega
theorem ce_id {e:Int} (h0 : -1099511627776≤e) (h1:e≤1099511627776):ce e=e:=by
 unfold ce mn mx
 split<;>split<;>omega
theorem un_text2 {m e:Int} (hm:bl m≤1000000) (he : -1099511627776≤e) (he':e≤1099511627776):mx (wrap64 ((wrap64 (bl m+e))-53)) (-1074)=un m e:=by
 have h2:=bl_nonneg m
 rw [w64_id (n:=bl m+e) (by omega) (by omega),w64_id (by omega) (by omega)]
 unfold mx un
 generalize bl m=n at *
 split<;>omega
theorem half_word {G H r:Int} (hG:0<G) (hGH:G*H=9223372036854775808) (h0:0≤r) (h1:r<2*H) :
 (G*r/9223372036854775808==1)=decide (r≥H)∧(r>H→(G*r*2%18446744073709551616 !=0)=true)∧(r=H→(G*r*2%18446744073709551616 !=0)=false):=by
 have e1:G*(2*H)=18446744073709551616:=by rw [Int.mul_left_comm,hGH];rfl
 have b0:0≤G*r:=Int.mul_nonneg (by omega) h0
 have b1:G*r<18446744073709551616:=by rw [← e1];exact Int.mul_lt_mul_of_pos_left h1 hG
 rcases Int.lt_trichotomy r H with h | h | h
 · have:G*r<9223372036854775808:=by rw [← hGH];exact Int.mul_lt_mul_of_pos_left h hG
   refine ⟨?_,fun k=>by omega,fun k=>by omega⟩
   rw [decide_eq_false (by omega),beq_eq_false_iff_ne]
   omega
 · subst h
   refine ⟨?_,fun k=>by omega,fun _=> ?_⟩
   · rw [decide_eq_true (by omega),beq_iff_eq]
     omega
   · rw [bne_eq_false_iff_eq]
     omega
 · have:9223372036854775808<G*r:=by rw [← hGH];exact Int.mul_lt_mul_of_pos_left h hG
   refine ⟨?_,fun _=> ?_,fun k=>by omega⟩
   · rw [decide_eq_true (by omega),beq_iff_eq]
     omega
   · rw [bne_iff_ne]
     omega
theorem Rd_pos {m e:Int} (h:0<m) (hu:un m e≤971):Rd m e=(un m e+1074)*4503599627370496+ru m e (un m e):=by
 unfold Rd
 rw [if_neg (by omega),if_neg (by omega)]
theorem Rd_over {m e:Int} (h:0<m) (hu:un m e>971):Rd m e=INF:=by
 unfold Rd
 rw [if_neg (by omega),if_pos hu]
theorem fround_Word_c {m e:Int} (neg:Bool) (hm:U m):Ev (fun k=>fround_Word.f k neg m e) (sgn neg (Rd m (ce e))):=by
 obtain ⟨hm0,hm1⟩:=id hm
 have hE:=ce_range e
 by_cases hz:m=0
 · refine Ev.ifp hz (Ev.bind (fround_made_zero neg) (Ev.same ?_))
   rw [hz,Rd_zero]
 · have hp:0<m:=by omega
   have b1:=bl_pos hp
   have b2:=bl_64 hm1
   refine Ev.ifn hz (Ev.bind (limb_Len_c hm) ?_)
   have eE:mn (mx e (-1099511627776)) 1099511627776=ce e:=rfl
   rw [eE]
   generalize ce e=E at *
   rw [un_text2 (by omega) (by omega) (by omega)]
   have hu:un m E=max (bl m+E-53) (-1074):=rfl
   have hq:=un_q (e:=E) hp
   have hr:=ru_units (e:=E) hp
   by_cases h1:un m E>971
   · refine Ev.ifp h1 (Ev.bindc (fbits_Inf_c neg) (Ev.same ?_))
     rw [Rd_over hp h1]
   · refine Ev.ifn h1 ?_
     rw [w64_id (n:=un m E-E) (by omega) (by omega),Rd_pos hp (by omega)]
     by_cases h2:un m E-E≤0
     · refine Ev.ifp h2 ?_
       rw [w64_id (by omega) (by omega)]
       refine Ev.ifp (by omega) ?_
       by_cases ht : -(un m E-E)≤64
       · have e0:ru m E (un m E)=m*2^(E-un m E).toNat:=by
          unfold ru
          rw [show (un m E-E).toNat=0 by omega,rnd_zero]
         rw [show (un m E-E).toNat=0 by omega,Int.pow_zero,Int.ediv_one] at hq
         rw [e0] at hr ⊢
         rw [shl_u _ _ (by omega),show (-(un m E-E)).toNat=(E-un m E).toNat by omega,Int.emod_eq_of_lt hq.1 (by omega)]
         exact Ev.bind (fround_made_c neg hr.1 hr.2.1 (by omega) (by omega) hr.2.2) (Ev.same rfl)
       · exfalso
         omega
     · refine Ev.ifn h2 ?_
       by_cases h3:un m E-E>64
       · refine Ev.ifp h3 (Ev.bind (fround_made_zero neg) (Ev.same ?_))
         have hu2:un m E= -1074:=by omega
         have e0:ru m E (un m E)=0:=by
          unfold ru
          rw [show (E-un m E).toNat=0 by omega,Int.pow_zero,Int.mul_one]
          have:=pow_le_pow (a:=65) (b:=(un m E-E).toNat) (by omega)
          exact rnd_small hm0 (by omega)
         rw [e0,hu2]
         rfl
       · refine Ev.ifn h3 ?_
         obtain ⟨d,hd⟩ : ∃ d:Nat,un m E-E=((d+1:Nat):Int):=⟨(un m E-E).toNat-1,by omega⟩
         have hd63:d+1≤64:=by omega
         have e0:ru m E (un m E)=rnd m (d+1):=by
          unfold ru
          rw [show (E-un m E).toNat=0 by omega,Int.pow_zero,Int.mul_one,hd,Int.toNat_natCast]
         rw [show (E-un m E).toNat=0 by omega,Int.pow_zero,Int.mul_one,hd,Int.toNat_natCast] at hq
         rw [e0] at hr ⊢
         rw [hd,w64_id (by omega) (by omega),w64_id (n:=((d+1:Nat):Int)-1) (by omega) (by omega)]
         refine Ev.ifp (by omega) (Ev.ifp (by omega) ?_)
         have hH:(2:Int)^(d+1)=2*2^d:=by rw [Int.pow_succ,Int.mul_comm]
         have hGH:(2:Int)^(64-(d+1))*2^d=9223372036854775808:=by rw [← Int.pow_add,show 64-(d+1)+d=63 by omega];rfl
         rw [shr_u _ _ (by omega),shl_u _ _ (by omega),show (((d+1:Nat):Int)-1).toNat=d by omega,show (64-((d+1:Nat):Int)).toNat=64-(d+1) by omega,mod_up m hd63,wu]
         have e1:m/2/2^d=m/2^(d+1):=by rw [Int.ediv_ediv_of_nonneg (by omega),← hH]
         rw [e1]
         have r0:=Int.emod_nonneg m (show (2:Int)^(d+1)≠0 by have:=pow_pos (d+1);omega)
         have r1:=Int.emod_lt_of_pos m (pow_pos (d+1))
         have hw:=half_word (G:=2^(64-(d+1))) (H:=2^d) (r:=m%2^(d+1)) (pow_pos _) hGH r0 (by omega)
         rw [hw.1]
         have he:=fround_even_c (x:=m/2^(d+1)) hq.1 (by omega) (decide (m%2^(d+1)≥2^d)) (2^(64-(d+1))*(m%2^(d+1))*2%18446744073709551616 !=0)
         have hv:(if decide (m%2^(d+1)≥2^d)=true∧((2^(64-(d+1))*(m%2^(d+1))*2%18446744073709551616 !=0)=true∨m/2^(d+1)%2=1) then m/2^(d+1)+1 else m/2^(d+1))=rnd m (d+1):=by
          unfold rnd
          rcases Int.lt_trichotomy (m%2^(d+1)) (2^d) with h | h | h
          · rw [if_neg (by simp;omega),if_neg (by omega)]
          · rw [hw.2.2 h]
            by_cases ho:m/2^(d+1)%2=1
            · rw [if_pos ⟨decide_eq_true (by omega), .inr ho⟩,if_pos (.inr ⟨by omega,ho⟩)]
            · rw [if_neg (by simp [ho]),if_neg (by omega)]
          · rw [hw.2.1 h,if_pos ⟨decide_eq_true (by omega), .inl rfl⟩,if_pos (.inl (by omega))]
         rw [hv] at he
         refine Ev.bindc he ?_
         exact Ev.bind (fround_made_c neg hr.1 hr.2.1 (by omega) (by omega) hr.2.2) (Ev.same rfl)
theorem fround_FromInt_c {n:Int} (h0 : -9223372036854775808≤n) (h1:n≤9223372036854775807):Ev (fun k=>fround_FromInt.f k n) (sgn (decide (n<0)) (Rd (if n<0 then -n else n) 0)):=by
 by_cases h:n<0
 · rw [decide_eq_true h,if_pos h]
   refine Ev.ifp h ?_
   have e:IntKind.u64.wrap (-(IntKind.u64.wrap n))= -n:=by rw [wu,wu];omega
   rw [e]
   refine Ev.bind (fround_Word_c (e:=0) true (by unfold U;omega)) (Ev.same ?_)
   rw [ce_id (by omega) (by omega)]
 · rw [decide_eq_false h,if_neg h]
   refine Ev.ifn h ?_
   rw [wu_id (by omega) (by omega)]
   refine Ev.bind (fround_Word_c (e:=0) false (by unfold U;omega)) (Ev.same ?_)
   rw [ce_id (by omega) (by omega)]
theorem fl_some {b:Int} (h:fk b≠4):fl b=(b+9223372036854775808)%18446744073709551616:=by unfold fl;rw [if_neg h]
theorem word_inf {a:Int} (h:U a) (h3:fk a=3):sgn (fs a) INF=a:=by
 have k:=fk_eq a
 conv=>rhs;rw [word_parts h,(k.2.1.1 h3).1,(k.2.1.1 h3).2]
 rfl
theorem bne_false' (x:Bool):(x !=false)=x:=by cases x<;>rfl
theorem rnd_near (M:Int) (d:Nat):2*(rnd M d*2^d-M)≤2^d∧2*(M-rnd M d*2^d)≤2^d:=by
 have hp:=pow_pos d
 have h1:=Int.mul_ediv_add_emod M (2^d)
 have h2:=Int.emod_nonneg M (show (2:Int)^d≠0 by omega)
 have h3:=Int.emod_lt_of_pos M hp
 unfold rnd
 rw [Int.mul_comm] at h1
 split
 · rw [Int.add_mul];omega
 · omega
def near (b:Int):Int × Bool:=if fx b=2047∨bl (pm b)+pe b>62 then (0,false) else (if fs b then -(ru (pm b) (pe b) 0) else ru (pm b) (pe b) 0,true)
def fscale (b k:Int):Int:=if fx b=2047 then cl b else sgn (fs b) (Rd (pm b) (pe b+min (max k (-5000)) 5000))
theorem fscale_U {b:Int} (h:U b) (k:Int):U (fscale b k):=by
 unfold fscale cl
 split
 · split
   · exact NAN_U
   · exact h
 · exact sgnRd_U ..
def fkey (b:Int):Int:=if fs b then -(b-9223372036854775808) else b
def less (a b:Int):Bool:=decide (fk a≠4∧fk b≠4∧fkey a<fkey b)
def fint (n:Int):Int:=sgn (decide (n<0)) (Rd (if n<0 then -n else n) 0)
theorem fint_U (n:Int):U (fint n):=sgnRd_U ..
theorem or_one {x:Int} (h:U x):Go.bits .or .u64 x 1=x/2*2+1:=by
 obtain ⟨h0,h1⟩:=h
 have hj:Go.bits .or .u64 (x/2*2) 1=x/2*2+1:=or_join 1 _ _ (by omega) (by omega) (by omega) (by omega) (by omega) (by omega)
 rcases (show x%2=0∨x%2=1 by omega) with h | h
 · rw [show x/2*2=x by omega] at hj ⊢
   exact hj
 · obtain ⟨a,ha⟩:=Int.eq_ofNat_of_zero_le (show 0≤x/2*2 by omega)
   rw [ha] at hj ⊢
   have e1:=or_nat a 1 (by omega) (by decide)
   have e2:=or_nat (a ||| 1) 1 (by have:=Nat.or_lt_two_pow (n:=64) (x:=a) (y:=1) (by omega) (by decide);exact this) (by decide)
   rw [Nat.or_assoc,Nat.or_self] at e2
   rw [show ((1:Nat):Int)=1 from rfl] at e1 e2
   rw [hj] at e1
   rw [← e1] at e2
   rw [show x=(a:Int)+1 by omega]
   exact e2
theorem fsum_odd_c {m:Int} (h0:0≤m) (h1:m<9007199254740992) (s:Nat):fsum_odd.f m s=some (st m s):=by
 unfold fsum_odd.f
 by_cases hs:(s:Int)>63
 · rw [if_pos hs]
   have:=pow_le_pow (a:=64) (b:=s) (by omega)
   unfold st mn
   rw [Int.emod_eq_of_lt h0 (by omega),Int.ediv_eq_zero_of_lt h0 (by omega)]
   rcases (show m=0∨1≤m by omega) with h | h
   · rw [h];rfl
   · rw [if_neg (show ¬ m=0 by omega)]
     congr 1
     split<;>omega
 · rw [if_neg hs,if_pos (by omega),shr_u _ _ (by omega),shl_u _ _ (by omega),Int.toNat_natCast]
   have hp:=pow_pos s
   have hd:=Int.mul_ediv_add_emod m (2^s)
   have hr:=Int.emod_nonneg m (show (2:Int)^s≠0 by omega)
   have hq:0≤m/2^s:=Int.ediv_nonneg h0 (by omega)
   have hqm:m/2^s≤m:=Int.ediv_le_self _ h0
   have hpq:0≤m/2^s*2^s:=Int.mul_nonneg hq (by omega)
   rw [Int.mul_comm] at hd
   rw [Int.emod_eq_of_lt hpq (by omega),or_one (by unfold U;omega)]
   unfold st
   by_cases h:m%2^s=0
   · rw [if_pos h,if_pos (by omega)]
   · rw [if_neg h,if_neg (by omega)]
theorem fsum_finite_j0 {m e n f:Int} (a b:Bool) (hm0:0≤m) (hm:m<9007199254740992) (hn0:0≤n) (hn:n<9007199254740992) (hef:f≤e) (hf : -1074≤f) (he:e≤1000) (hw:e= -1074∨4503599627370496≤m) :
 Ev (fun k=>fsum_finite.j0 k a m e b n f) (if a=b then sgn a (Rd (m*2^(e-f).toNat+n) f) else if m*2^(e-f).toNat=n then 0 else if m*2^(e-f).toNat>n then sgn a (Rd (m*2^(e-f).toNat-n) f) else sgn b (Rd (n-m*2^(e-f).toNat) f)):=by
 refine Ev.eqv (fun k=>fsum_finite.j0.eq_1 ..) ?_
 have e1:mn (wrap64 (e-f)) 10=min (e-f) 10:=by
  rw [w64_id (by omega) (by omega)]
  unfold mn
  split<;>omega
 obtain ⟨up,hup⟩ : ∃ up:Nat,(up:Int)=min (e-f) 10:=⟨(min (e-f) 10).toNat,by omega⟩
 obtain ⟨s,hs⟩ : ∃ s:Nat,e-up-f=s:=⟨(e-up-f).toNat,by omega⟩
 rw [e1,← hup]
 have e2:wrap64 (e-(up:Int))=e-up:=w64_id (by omega) (by omega)
 have e3:wrap64 (e-(up:Int)-f)=s:=by rw [w64_id (by omega) (by omega)];exact hs
 rw [e2,e3]
 refine Ev.ifp (by omega) (Ev.bindc (fsum_odd_c hn0 hn s) ?_)
 have hS:=sum_st hm0 hm hn0 hn hef hf hw hup hs
 have hX0:0≤m*2^up:=Int.mul_nonneg hm0 (by have:=pow_pos up;omega)
 have hX1:m*2^up≤9007199254740991*1024:=Int.mul_le_mul (by omega) (pow_le_pow (show up≤10 by omega)) (by have:=pow_pos up;omega) (by omega)
 have hY0:=st_nonneg hn0 s
 have hY1:st n s≤n+1:=by
  have:=st_le hn0 s
  have:n/2^s≤n:=Int.ediv_le_self _ hn0
  omega
 rw [Int.toNat_natCast,wu_id hX0 (by omega),wu_id (n:=m*2^up+st n s) (by omega) (by omega)]
 obtain ⟨s1,s2,s3,s4,s5⟩:=hS
 generalize m*2^up=X at *
 generalize st n s=Y at *
 generalize m*2^(e-f).toNat=M at *
 have hce:ce (e-(up:Int))=e-up:=ce_id (by omega) (by omega)
 by_cases hab:a=b
 · rw [if_pos hab]
   refine Ev.ifp (by rw [hab];simp) ?_
   refine Ev.bind (fround_Word_c (e:=e-(up:Int)) a (m:=X+Y) (by unfold U;omega)) (Ev.same ?_)
   rw [hce,s1]
 · rw [if_neg hab]
   refine Ev.ifn (by simp [hab]) ?_
   by_cases h1:X>Y
   · rw [if_neg (show ¬ M=n by omega),if_pos (s2.1 h1)]
     refine Ev.ifp h1 ?_
     rw [wu_id (by omega) (by omega)]
     refine Ev.bind (fround_Word_c (e:=e-(up:Int)) a (m:=X-Y) (by unfold U;omega)) (Ev.same ?_)
     rw [hce,s4 h1]
   · refine Ev.ifn h1 ?_
     by_cases h2:X<Y
     · rw [if_neg (show ¬ M=n by omega),if_neg (show ¬ M>n by omega)]
       refine Ev.ifp h2 ?_
       rw [wu_id (by omega) (by omega)]
       refine Ev.bind (fround_Word_c (e:=e-(up:Int)) b (m:=Y-X) (by unfold U;omega)) (Ev.same ?_)
       rw [hce,s5 h2]
     · rw [if_pos (show M=n by omega)]
       exact Ev.ifn h2 (Ev.same rfl)
theorem fsum_finite_c {a b:Int} (ha:fx a≠2047) (hb:fx b≠2047):Ev (fun k=>fsum_finite.f k (fs a) (pm a) (pe a) (fs b) (pm b) (pe b)) (fsF a b):=by
 have a1:=pm_range a
 have a2:=pe_range a
 have b1:=pm_range b
 have b2:=pe_range b
 by_cases h:pe a<pe b
 · refine Ev.ifp h ((fsum_finite_j0 (fs b) (fs a) b1.1 b1.2 a1.1 a1.2 (by omega) (by omega) (by omega) b2.2.2.2).eqr ?_)
   rw [fsF_comm]
   unfold fsF
   rw [show min (pe b) (pe a)=pe a by omega,show (pe a-pe a).toNat=0 by omega,Int.pow_zero,Int.mul_one]
 · refine Ev.ifn h ((fsum_finite_j0 (fs a) (fs b) a1.1 a1.2 b1.1 b1.2 (by omega) (by omega) (by omega) a2.2.2.2).eqr ?_)
   unfold fsF
   rw [show min (pe a) (pe b)=pe b by omega,show (pe b-pe b).toNat=0 by omega,Int.pow_zero,Int.mul_one]
theorem fsum_of_c {b:Int} (h:U b) (hx:fx b≠2047):Ev (fun k=>fsum_of.f k b) (fs b,pm b,pe b):=by
 have:=fbits_Parts_c h
 rw [if_neg hx] at this
 exact Ev.bind this (Ev.same rfl)
theorem fsum_Add_c {a b:Int} (ha:U a) (hb:U b):Ev (fun k=>fsum_Add.f k a b) (fadd a b):=by
 refine Ev.bindc (fbits_Kind_c ha) (Ev.bindc (fbits_Kind_c hb) ?_)
 have nan : ∀ t:Bool,t=true→(fk a=4∨fk b=4)→Ev (fun k=>fsum_Add.j0 k a b (fk a) (fk b) t) (fadd a b):=by
  intro t ht h
  refine Ev.step (fun k=>fsum_Add.j0.eq_2 ..) (Ev.ifp ht (Ev.bindc fbits_Nan_c (Ev.same ?_)))
  unfold fadd
  rw [if_pos h]
 by_cases h1:fk a=4
 · exact Ev.ifp h1 (nan _ rfl (.inl h1))
 · refine Ev.ifn h1 ?_
   by_cases h2:fk b=4
   · exact nan _ (by rw [h2];rfl) (.inr h2)
   · refine Ev.step (fun k=>fsum_Add.j0.eq_2 ..) (Ev.ifn (by simp [h2]) ?_)
     have j1 : ∀ t:Bool,(t=true↔(fk a=3∧fk b=3∧a≠b))→Ev (fun k=>fsum_Add.j1 k a b (fk a) (fk b) t) (fadd a b):=by
      intro t ht
      refine Ev.step (fun k=>fsum_Add.j1.eq_2 ..) ?_
      unfold fadd
      rw [if_neg (show ¬ (fk a=4∨fk b=4) by omega)]
      by_cases h3:fk a=3∧fk b=3∧a≠b
      · rw [if_pos h3]
        exact Ev.ifp (ht.2 h3) (Ev.bindc fbits_Nan_c (Ev.same rfl))
      · rw [if_neg h3]
        refine Ev.ifn (fun k=>h3 (ht.1 k)) ?_
        by_cases h4:fk a=3
        · rw [if_pos h4]
          exact Ev.ifp h4 (Ev.same rfl)
        · rw [if_neg h4]
          refine Ev.ifn h4 ?_
          by_cases h5:fk b=3
          · rw [if_pos h5]
            exact Ev.ifp h5 (Ev.same rfl)
          · rw [if_neg h5]
            refine Ev.ifn h5 (Ev.bind (fsum_of_c ha (fk_fin (fun k=>h1 k) h4)) (Ev.bind (fsum_of_c hb (fk_fin h2 h5)) ?_))
            exact Ev.bind (fsum_finite_c (fk_fin h1 h4) (fk_fin h2 h5)) (Ev.same rfl)
     by_cases h3:fk a=3
     · refine Ev.ifp h3 ?_
       by_cases h4:fk b=3
       · exact Ev.ifp h4 (j1 _ (by simp [h3,h4]))
       · exact Ev.ifn h4 (j1 _ (by simp [h4]))
     · exact Ev.ifn h3 (j1 _ (by simp [h3]))
theorem fsum_Sub_c {a b:Int} (ha:U a) (hb:U b):Ev (fun k=>fsum_Sub.f k a b) (fsub a b):=Ev.bindc (fbits_Flip_c hb) (Ev.bind (fsum_Add_c ha (fl_U b)) (Ev.same rfl))

theorem and_one_i64 (x:Int):Go.bits .and .i64 x 1=x%2:=by
 have e:Go.bits .and .i64 x 1=IntKind.i64.wrap (((x%18446744073709551616).toNat &&& 1:Nat):Int):=by
  simp only [Go.bits,BitVec.toNat_and,BitVec.toNat_ofInt]
  rfl
 rw [e,Nat.and_one_is_mod,IntKind.wrap_i64]
 omega
theorem parts_fin {b:Int} (h:U b) (hx:fx b≠2047):Ev (fun k=>fbits_Parts.f k b) (fs b,pm b,pe b,true):=by
 have:=fbits_Parts_c h
 rwa [if_neg hx] at this
theorem mul_word {m n E:Int} (neg:Bool) (hm0:0≤m) (hm:m<9007199254740992) (hn0:0≤n) (hn:n<9007199254740992) (hE0 : -3000≤E) (hE1:E≤3000) :
 Ev (fun k=>(limb_Mul.f m n).bind fun bt898=>((limb_Len.f k bt898.1).bind fun t900=>(if t900=0 then ((fround_Word.f k neg bt898.2 E).bind fun t901=>(some t901)) else (if 0≤(wrap64 (64-t900)) then (if 0≤t900 then (if (shl .u64 bt898.2 (wrap64 (64-t900)))=0 then ((fround_Word.f k neg (Go.bits .or .u64 (shl .u64 bt898.1 (wrap64 (64-t900))) (shr .u64 bt898.2 t900)) (wrap64 (E+t900))).bind fun t902=>(some t902)) else ((fround_Word.f k neg (Go.bits .or .u64 (Go.bits .or .u64 (shl .u64 bt898.1 (wrap64 (64-t900))) (shr .u64 bt898.2 t900)) 1) (wrap64 (E+t900))).bind fun t903=>(some t903))) else (none)) else (none))))) (sgn neg (Rd (m*n) E)):=by
 have hP0:0≤m*n:=Int.mul_nonneg hm0 hn0
 have hP1:m*n≤9007199254740991*9007199254740991:=Int.mul_le_mul (by omega) (by omega) hn0 (by omega)
 refine Ev.bindc (limb_Mul_c (a:=m) (b:=n) (by unfold U;omega) (by unfold U;omega)) ?_
 dsimp only
 generalize m*n=P at *
 have hhi:U (P/18446744073709551616):=by unfold U;omega
 refine Ev.bind (limb_Len_c hhi) ?_
 have b1:=bl_nonneg (P/18446744073709551616)
 have b2:bl (P/18446744073709551616)≤42:=bl_le_of (n:=42) (by omega)
 by_cases hz:bl (P/18446744073709551616)=0
 · have h0:P/18446744073709551616=0:=by
    rcases (show P/18446744073709551616=0∨0<P/18446744073709551616 by omega) with h | h
    · exact h
    · have:=bl_pos h
      omega
   refine Ev.ifp hz (Ev.bind (fround_Word_c (e:=E) neg (m:=P%18446744073709551616) (by unfold U;omega)) (Ev.same ?_))
   rw [ce_id (by omega) (by omega),show P%18446744073709551616=P by omega]
 · refine Ev.ifn hz ?_
   have hbP:bl P=bl (P/18446744073709551616)+64:=by
    have hge:18446744073709551616≤P:=by
     rcases Int.lt_or_le P 18446744073709551616 with h | h
     · rw [Int.ediv_eq_zero_of_lt hP0 h] at hz
       exact absurd bl_zero hz
     · exact h
    exact bl_shr (x:=P) (s:=64) hge
   have hlt:=bl_lt (P/18446744073709551616)
   obtain ⟨s,hs⟩ : ∃ s:Nat,bl (P/18446744073709551616)=s:=⟨(bl (P/18446744073709551616)).toNat,by omega⟩
   rw [hs] at hlt hz b2 hbP ⊢
   rw [Int.toNat_natCast] at hlt
   rw [w64_id (n:=64-(s:Int)) (by omega) (by omega)]
   refine Ev.ifp (by omega) (Ev.ifp (by omega) ?_)
   rw [shl_u _ _ (by omega),shl_u _ _ (by omega),shr_u _ _ (by omega),show (64-(s:Int)).toNat=64-s by omega,Int.toNat_natCast,mod_up _ (show s≤64 by omega)]
   have hp:=pow_pos s
   have hp2:=pow_pos (64-s)
   have hpp:(2:Int)^(64-s)*2^s=18446744073709551616:=by rw [← Int.pow_add,show 64-s+s=64 by omega];rfl
   have hhi0:0≤P/18446744073709551616*2^(64-s):=Int.mul_nonneg (by omega) (by omega)
   have hhi1:P/18446744073709551616*2^(64-s)+2^(64-s)≤18446744073709551616:=by
    have:=Int.mul_le_mul_of_nonneg_right (show P/18446744073709551616+1≤2^s by omega) (Int.le_of_lt hp2)
    rw [Int.add_mul,Int.one_mul,Int.mul_comm (2^s),hpp] at this
    exact this
   have hlo0:0≤P%18446744073709551616/2^s:=Int.ediv_nonneg (by omega) (by omega)
   have hlo1:P%18446744073709551616/2^s<2^(64-s):=by rw [Int.ediv_lt_iff_lt_mul hp,hpp];omega
   have eP:P=P/18446744073709551616*2^(64-s)*2^s+P%18446744073709551616:=by rw [Int.mul_assoc,hpp];omega
   have eq1:P/18446744073709551616*2^(64-s)+P%18446744073709551616/2^s=P/2^s:=by
    conv=>rhs;rw [eP]
    rw [Int.add_comm (P/18446744073709551616*2^(64-s)*2^s),Int.add_mul_ediv_right _ _ (by omega),Int.add_comm]
   have eq2:P%18446744073709551616%2^s=P%2^s:=by
    conv=>rhs;rw [eP]
    rw [Int.add_comm,Int.add_mul_emod_self_right]
   have hor:Go.bits .or .u64 (P/18446744073709551616*2^(64-s)%18446744073709551616) (P%18446744073709551616/2^s)=P/2^s:=by
    rw [Int.emod_eq_of_lt hhi0 (by omega),or_join (64-s) _ _ hhi0 (Int.mul_emod_left ..) (by omega) hlo0 hlo1 (by omega)]
    exact eq1
   rw [hor,eq2,w64_id (by omega) (by omega)]
   have hU:U (P/2^s):=by unfold U;omega
   have hPpos:0<P:=by
    rcases (show P=0∨0<P by omega) with h | h
    · rw [h,bl_zero] at hbP;omega
    · exact h
   have hst:=Rd_st (M:=P) (e:=E) (s:=s) hPpos (by unfold un;omega)
   have r0:=Int.emod_nonneg P (show (2:Int)^s≠0 by omega)
   by_cases h1:P%2^s=0
   · refine Ev.ifp (by rw [h1,Int.mul_zero]) ?_
     unfold st at hst
     rw [if_pos h1] at hst
     refine Ev.bind (fround_Word_c (e:=E+s) neg hU) (Ev.same ?_)
     rw [ce_id (by omega) (by omega),hst]
   · refine Ev.ifn ?_ ?_
     · have:=Int.mul_pos hp2 (show 0<P%2^s by omega)
       omega
     · unfold st at hst
       rw [if_neg h1] at hst
       rw [or_one hU]
       refine Ev.bind (fround_Word_c (e:=E+s) neg (m:=P/2^s/2*2+1) (by unfold U at *;omega)) (Ev.same ?_)
       rw [ce_id (by omega) (by omega),hst]
theorem fprod_Mul_c {a b:Int} (ha:U a) (hb:U b):Ev (fun k=>fprod_Mul.f k a b) (fmul a b):=by
 refine Ev.bindc (fbits_Kind_c ha) (Ev.bindc (fbits_Kind_c hb) (Ev.bindc (fbits_Neg_c ha) (Ev.bindc (fbits_Neg_c hb) ?_)))
 have eb:(!(fs a==fs b))=(fs a !=fs b):=rfl
 rw [eb]
 generalize hneg:(fs a !=fs b)=neg
 have hF:fmul a b=if fk a=4∨fk b=4∨(fk a=3∧fk b=0)∨(fk a=0∧fk b=3) then NAN else if fk a=3∨fk b=3 then sgn neg INF else sgn neg (Rd (pm a*pm b) (pe a+pe b)):=by
  unfold fmul
  rw [hneg]
 have j2 : ∀ t:Bool,(fk a≠4∧fk b≠4)→(fk a=3∨fk b=3)→(t=true↔(fk a=0∨fk b=0))→Ev (fun k=>fprod_Mul.j2 k neg t) (fmul a b):=by
  intro t h4 h3 ht
  refine Ev.step (fun k=>fprod_Mul.j2.eq_2 ..) ?_
  rw [hF]
  by_cases h:fk a=0∨fk b=0
  · have hc:fk a=4∨fk b=4∨(fk a=3∧fk b=0)∨(fk a=0∧fk b=3):=by omega
    rw [if_pos hc]
    exact Ev.ifp (ht.2 h) (Ev.bindc fbits_Nan_c (Ev.same rfl))
  · rw [if_neg (show ¬ (fk a=4∨fk b=4∨(fk a=3∧fk b=0)∨(fk a=0∧fk b=3)) by omega),if_pos h3]
    exact Ev.ifn (fun k=>h (ht.1 k)) (Ev.bindc (fbits_Inf_c neg) (Ev.same rfl))
 have j1 : ∀ t:Bool,(fk a≠4∧fk b≠4)→(t=true↔(fk a=3∨fk b=3))→Ev (fun k=>fprod_Mul.j1 k a b (fk a) (fk b) neg t) (fmul a b):=by
  intro t h4 ht
  refine Ev.step (fun k=>fprod_Mul.j1.eq_2 ..) ?_
  by_cases h:fk a=3∨fk b=3
  · refine Ev.ifp (ht.2 h) ?_
    by_cases h0:fk a=0
    · exact Ev.ifp h0 (j2 _ h4 h (by simp [h0]))
    · exact Ev.ifn h0 (j2 _ h4 h (by simp [h0]))
  · refine Ev.ifn (fun k=>h (ht.1 k)) ?_
    have fa:fx a≠2047:=fk_fin h4.1 (fun k=>h (.inl k))
    have fb:fx b≠2047:=fk_fin h4.2 (fun k=>h (.inr k))
    refine Ev.bind (parts_fin ha fa) (Ev.bind (parts_fin hb fb) ?_)
    have a1:=pm_range a
    have a2:=pe_range a
    have b1:=pm_range b
    have b2:=pe_range b
    dsimp only
    rw [w64_id (n:=pe a+pe b) (by omega) (by omega)]
    rw [hF,if_neg (show ¬ (fk a=4∨fk b=4∨(fk a=3∧fk b=0)∨(fk a=0∧fk b=3)) by omega),if_neg h]
    exact mul_word neg a1.1 a1.2 b1.1 b1.2 (by omega) (by omega)
 have j0 : ∀ t:Bool,(t=true↔(fk a=4∨fk b=4))→Ev (fun k=>fprod_Mul.j0 k a b (fk a) (fk b) neg t) (fmul a b):=by
  intro t ht
  refine Ev.step (fun k=>fprod_Mul.j0.eq_2 ..) ?_
  by_cases h:fk a=4∨fk b=4
  · refine Ev.ifp (ht.2 h) (Ev.bindc fbits_Nan_c (Ev.same ?_))
    have hc:fk a=4∨fk b=4∨(fk a=3∧fk b=0)∨(fk a=0∧fk b=3):=by omega
    rw [hF,if_pos hc]
  · refine Ev.ifn (fun k=>h (ht.1 k)) ?_
    by_cases h3:fk a=3
    · exact Ev.ifp h3 (j1 _ (by omega) (by simp [h3]))
    · exact Ev.ifn h3 (j1 _ (by omega) (by simp [h3]))
 by_cases h:fk a=4
 · exact Ev.ifp h (j0 _ (by simp [h]))
 · exact Ev.ifn h (j0 _ (by simp [h]))

theorem fprod_signed_c (neg:Bool):Ev (fun k=>fprod_signed.f k neg) (sgn neg 0):=by
 refine Ev.bind (fbits_Make_c neg (m:=0) (e:=0) (by unfold U;omega) (by omega) (by omega)) (Ev.same ?_)
 rw [Mk_zero]
theorem top_word {m:Int} (h0:0<m) (h1:m<9007199254740992):4611686018427387904≤m*2^(63-bl m).toNat∧m*2^(63-bl m).toNat<9223372036854775808∧9223372036854775808≤m*2^(64-bl m).toNat∧m*2^(64-bl m).toNat<18446744073709551616:=by
 have b2:bl m≤53:=bl_le_of (n:=53) (by omega)
 have t:=bl_top h0 (by omega)
 have e:m*2^(64-bl m).toNat=m*2^(63-bl m).toNat*2:=by
  rw [show (64-bl m).toNat=(63-bl m).toNat+1 by omega,Int.pow_succ,Int.mul_assoc]
 rw [e] at t ⊢
 omega
theorem fprod_Div_c {a b:Int} (ha:U a) (hb:U b):Ev (fun k=>fprod_Div.f k a b) (fdiv a b):=by
 refine Ev.bindc (fbits_Kind_c ha) (Ev.bindc (fbits_Kind_c hb) (Ev.bindc (fbits_Neg_c ha) (Ev.bindc (fbits_Neg_c hb) ?_)))
 have eb:(!(fs a==fs b))=(fs a !=fs b):=rfl
 rw [eb]
 generalize hneg:(fs a !=fs b)=neg
 have hF:fdiv a b=if fk a=4∨fk b=4∨(fk a=3∧fk b=3)∨(fk a=0∧fk b=0) then NAN else if fk a=3∨fk b=0 then sgn neg INF else if fk a=0∨fk b=3 then sgn neg 0 else sgn neg (qd (pm a) (pe a) (pm b) (pe b)):=by
  unfold fdiv
  rw [hneg]
 have j1 : ∀ t:Bool,¬ (fk a=4∨fk b=4∨(fk a=3∧fk b=3)∨(fk a=0∧fk b=0))→(t=true↔(fk a=3∨fk b=0))→Ev (fun k=>fprod_Div.j1 k a b (fk a) (fk b) neg t) (fdiv a b):=by
  intro t h4 ht
  refine Ev.step (fun k=>fprod_Div.j1.eq_2 ..) ?_
  rw [hF,if_neg h4]
  by_cases h:fk a=3∨fk b=0
  · rw [if_pos h]
    exact Ev.ifp (ht.2 h) (Ev.bindc (fbits_Inf_c neg) (Ev.same rfl))
  · rw [if_neg h]
    refine Ev.ifn (fun k=>h (ht.1 k)) ?_
    by_cases h1:fk a=0
    · rw [if_pos (.inl h1)]
      exact Ev.ifp h1 (Ev.bind (fprod_signed_c neg) (Ev.same rfl))
    · refine Ev.ifn h1 ?_
      by_cases h2:fk b=3
      · rw [if_pos (.inr h2)]
        exact Ev.ifp h2 (Ev.bind (fprod_signed_c neg) (Ev.same rfl))
      · rw [if_neg (by omega)]
        have fa:fx a≠2047:=fk_fin (by omega) (by omega)
        have fb:fx b≠2047:=fk_fin (by omega) (by omega)
        have za:pm a≠0:=fun k=>h1 ((fk_eq a).2.2.2.1.2 ⟨fa,k⟩)
        have zb:pm b≠0:=fun k=>h (.inr ((fk_eq b).2.2.2.1.2 ⟨fb,k⟩))
        refine Ev.ifn h2 (Ev.bind (parts_fin ha fa) (Ev.bind (parts_fin hb fb) ?_))
        have a1:=pm_range a
        have a2:=pe_range a
        have b1:=pm_range b
        have b2:=pe_range b
        have na:=bl_nonneg (pm a)
        have nb:=bl_nonneg (pm b)
        have ba:bl (pm a)≤53:=bl_le_of (n:=53) (by omega)
        have bb:bl (pm b)≤53:=bl_le_of (n:=53) (by omega)
        have ta:=top_word (m:=pm a) (by omega) a1.2
        have tb:=top_word (m:=pm b) (by omega) b1.2
        have a3 : -1074≤pe a∧pe a≤972:=⟨a2.1,a2.2.1⟩
        have b3 : -1074≤pe b∧pe b≤972:=⟨b2.1,b2.2.1⟩
        dsimp only
        refine Ev.bind (limb_Len_c (x:=pm a) (by unfold U;omega)) (Ev.bind (limb_Len_c (x:=pm b) (by unfold U;omega)) ?_)
        clear a2 b2 hF h4 ht h h1 h2 fa fb
        unfold qd
        generalize pm a=m at *
        generalize pm b=n at *
        generalize pe a=e at *
        generalize pe b=f at *
        rw [w64_id (n:=63-bl m) (by omega) (by omega),w64_id (n:=64-bl n) (by omega) (by omega)]
        refine Ev.ifp (by omega) (Ev.ifp (by omega) ?_)
        rw [shl_u _ _ (by omega),shl_u _ _ (by omega),Int.emod_eq_of_lt (by omega) (by omega),Int.emod_eq_of_lt (by omega) (by omega)]
        rw [w64_id (n:=e-(63-bl m)) (by omega) (by omega),w64_id (n:=e-(63-bl m)-f) (by omega) (by omega),w64_id (n:=e-(63-bl m)-f+(64-bl n)) (by omega) (by omega),w64_id (n:=e-(63-bl m)-f+(64-bl n)-64) (by omega) (by omega)]
        have eE:e-(63-bl m)-f+(64-bl n)-64=e-f+bl m-bl n-63:=by omega
        have eE2:e-f+bl m-bl n-64=e-f+bl m-bl n-63-1:=by omega
        have hE : -5000≤e-f+bl m-bl n-63∧e-f+bl m-bl n-63≤5000:=by omega
        rw [eE,eE2]
        generalize e-f+bl m-bl n-63=E at *
        generalize m*2^(63-bl m).toNat=M at *
        generalize n*2^(64-bl n).toNat=N at *
        have D:=limb_Div_c (hi:=M) (lo:=0) (d:=N) (by omega) (by omega) (by omega) (by unfold U;omega)
        rw [Int.add_zero] at D
        have q0:4611686018427387904≤M*18446744073709551616/N:=by rw [Int.le_ediv_iff_mul_le (by omega)];omega
        have q1:M*18446744073709551616/N<18446744073709551616:=by rw [Int.ediv_lt_iff_lt_mul (by omega)];omega
        refine Ev.bind D ?_
        dsimp only
        generalize M*18446744073709551616/N=q at *
        generalize M*18446744073709551616%N=r at *
        by_cases hr:r=0
        · rw [if_pos hr]
          refine Ev.ifp hr (Ev.bind (fround_Word_c (e:=E) neg (m:=q) (by unfold U;omega)) (Ev.same ?_))
          rw [ce_id (by omega) (by omega)]
        · rw [if_neg hr]
          refine Ev.ifn hr ?_
          rw [or_one (by unfold U;omega)]
          refine Ev.bind (fround_Word_c (e:=E) neg (m:=q/2*2+1) (by unfold U;omega)) (Ev.same ?_)
          rw [ce_id (by omega) (by omega),qd_code q0]
 have j0 : ∀ t:Bool,(t=true↔(fk a=4∨fk b=4∨(fk a=3∧fk b=3)∨(fk a=0∧fk b=0)))→Ev (fun k=>fprod_Div.j0 k a b (fk a) (fk b) neg t) (fdiv a b):=by
  intro t ht
  refine Ev.step (fun k=>fprod_Div.j0.eq_2 ..) ?_
  by_cases h:fk a=4∨fk b=4∨(fk a=3∧fk b=3)∨(fk a=0∧fk b=0)
  · refine Ev.ifp (ht.2 h) (Ev.bindc fbits_Nan_c (Ev.same ?_))
    rw [hF,if_pos h]
  · refine Ev.ifn (fun k=>h (ht.1 k)) ?_
    by_cases h3:fk a=3
    · exact Ev.ifp h3 (j1 _ h (by simp [h3]))
    · exact Ev.ifn h3 (j1 _ h (by simp [h3]))
 by_cases h:fk a=4
 · exact Ev.ifp h (j0 _ (by simp [h]))
 · refine Ev.ifn h ?_
   by_cases h2:fk b=4
   · exact Ev.ifp h2 (j0 _ (by simp [h2]))
   · refine Ev.ifn h2 ?_
     by_cases h3:fk a=fk b
     · refine Ev.ifp h3 ?_
       by_cases h5:fk a=3
       · exact Ev.ifp h5 (j0 _ (by simp;omega))
       · exact Ev.ifn h5 (j0 _ (by simp;omega))
     · exact Ev.ifn h3 (j0 _ (by simp;omega))

theorem fcmp_key_c {b:Int} (h:U b):fcmp_key.f b=some (fkey b):=by
 unfold fcmp_key.f
 rw [fbits_Neg_c h,wu]
 unfold U at h
 show (if fs b=true then some (wrap64 (-(wrap64 (b*2%18446744073709551616/2)))) else some (wrap64 (b*2%18446744073709551616/2)))=some (fkey b)
 unfold fkey fs
 by_cases hb:b≥9223372036854775808
 · rw [decide_eq_true hb,if_pos rfl,if_pos rfl,w64_id (n:=b*2%18446744073709551616/2) (by omega) (by omega),w64_id (by omega) (by omega)]
   congr 1
   omega
 · rw [decide_eq_false hb,if_neg (by decide),if_neg (by decide),w64_id (by omega) (by omega)]
   congr 1
   omega
theorem fcmp_known_c {a b:Int} (ha:U a) (hb:U b):fcmp_known.f a b=some (decide (fk a≠4∧fk b≠4)):=by
 unfold fcmp_known.f
 rw [fbits_Kind_c ha,fbits_Kind_c hb]
 show (if fk a=4 then some false else some (fk b !=4))=_
 by_cases h:fk a=4
 · rw [if_pos h,decide_eq_false (fun k=>k.1 h)]
 · rw [if_neg h]
   congr 1
   by_cases h2:fk b=4
   · rw [decide_eq_false (fun k=>k.2 h2),bne_eq_false_iff_eq];exact h2
   · rw [decide_eq_true ⟨h,h2⟩,bne_iff_ne];exact h2
theorem fcmp_Less_c {a b:Int} (ha:U a) (hb:U b):fcmp_Less.f a b=some (less a b):=by
 unfold fcmp_Less.f less
 rw [fcmp_known_c ha hb,fcmp_key_c ha,fcmp_key_c hb]
 show (if decide (fk a≠4∧fk b≠4)=true then some (decide (fkey a<fkey b)) else some false)=_
 by_cases h:fk a≠4∧fk b≠4
 · rw [decide_eq_true h,if_pos rfl]
   congr 1
   simp [h.1,h.2]
 · rw [decide_eq_false h,if_neg (by decide),decide_eq_false (fun k=>h ⟨k.1,k.2.1⟩)]
theorem near_no {b:Int} (h:fx b=2047∨bl (pm b)+pe b>62):near b=(0,false):=by unfold near;rw [if_pos h]
theorem near_yes {b:Int} (h:fx b≠2047) (h2:bl (pm b)+pe b≤62):near b=(if fs b then -(ru (pm b) (pe b) 0) else ru (pm b) (pe b) 0,true):=by
 unfold near
 rw [if_neg (by omega)]
theorem fcmp_Near_j1 {n:Int} (neg t:Bool) (h0:0≤n) (h1:n≤4611686018427387904):Ev (fun k=>fcmp_Near.j1 k neg n t) (if neg then -(if t then n+1 else n) else (if t then n+1 else n),true):=by
 refine Ev.step (fun k=>fcmp_Near.j1.eq_2 ..) ?_
 cases t
 · refine Ev.ifn (by decide) ?_
   cases neg
   · exact Ev.ifn (by decide) (Ev.same rfl)
   · refine Ev.ifp rfl (Ev.same ?_)
     rw [w64_id (by omega) (by omega)]
     rfl
 · refine Ev.ifp rfl ?_
   cases neg
   · refine Ev.ifn (by decide) (Ev.same ?_)
     rw [w64_id (by omega) (by omega)]
     rfl
   · refine Ev.ifp rfl (Ev.same ?_)
     rw [w64_id (n:=n+1) (by omega) (by omega),w64_id (by omega) (by omega)]
     rfl
theorem fcmp_Near_c {b:Int} (h:U b):Ev (fun k=>fcmp_Near.f k b) (near b):=by
 have hP:=fbits_Parts_c h
 have a1:=pm_range b
 have a2:=pe_range b
 by_cases hx:fx b=2047
 · rw [if_pos hx] at hP
   refine Ev.bind hP (Ev.ifn (by decide) (Ev.step (fun k=>fcmp_Near.j0.eq_2 ..) (Ev.ifp rfl (Ev.same ?_))))
   rw [near_no (.inl hx)]
 · rw [if_neg hx] at hP
   refine Ev.bind hP (Ev.ifp rfl (Ev.bind (limb_Len_c (x:=pm b) (by unfold U;omega)) ?_))
   dsimp only
   have b0:=bl_nonneg (pm b)
   have b1:bl (pm b)≤53:=bl_le_of (n:=53) (by omega)
   have a3 : -1074≤pe b∧pe b≤972:=⟨a2.1,a2.2.1⟩
   have a4:=a2.2.2.2
   rw [w64_id (n:=bl (pm b)+pe b) (by omega) (by omega)]
   clear a2 hP
   by_cases h1:bl (pm b)+pe b>62
   · refine Ev.step (fun k=>fcmp_Near.j0.eq_2 ..) (Ev.ifp (decide_eq_true h1) (Ev.same ?_))
     rw [near_no (.inr h1)]
   · rw [near_yes hx (by omega)]
     refine Ev.step (fun k=>fcmp_Near.j0.eq_2 ..) (Ev.ifn (by rw [decide_eq_false h1];decide) ?_)
     have l1:=bl_lt (pm b)
     generalize pm b=m at *
     generalize pe b=e at *
     generalize fs b=neg
     by_cases h2:e≥0
     · refine Ev.ifp h2 (Ev.ifp h2 ?_)
       have hlt:m*2^e.toNat<2^62:=by
        have hp:=pow_pos e.toNat
        have:=Int.mul_lt_mul_of_pos_right l1 hp
        rw [← Int.pow_add] at this
        have:=pow_le_pow (a:=(bl m).toNat+e.toNat) (b:=62) (by omega)
        omega
       have hge:0≤m*2^e.toNat:=Int.mul_nonneg a1.1 (by have:=pow_pos e.toNat;omega)
       have er:ru m e 0=m*2^e.toNat:=by
        unfold ru
        rw [show (0-e).toNat=0 by omega,rnd_zero,show e-0=e by omega]
       rw [er,shl_u _ _ (by omega),Int.emod_eq_of_lt hge (by omega),w64_id (n:=m*2^e.toNat) (by omega) (by omega),w64_id (by omega) (by omega)]
       cases neg
       · exact Ev.ifn (by decide) (Ev.same rfl)
       · exact Ev.ifp rfl (Ev.same rfl)
     · refine Ev.ifn h2 ?_
       by_cases h3:e> -64
       · refine Ev.ifp h3 ?_
         obtain ⟨d,hd⟩ : ∃ d:Nat,-e=((d+1:Nat):Int):=⟨(-e).toNat-1,by omega⟩
         have hd63:d+1≤63:=by omega
         have er:ru m e 0=rnd m (d+1):=by
          unfold ru
          rw [show (0-e).toNat=d+1 by omega,show (e-0).toNat=0 by omega,Int.pow_zero,Int.mul_one]
         rw [w64_id (n:= -e) (by omega) (by omega),w64_id (n:=64+e) (by omega) (by omega)]
         refine Ev.ifp (by omega) (Ev.ifp (by omega) ?_)
         have hp:=pow_pos (d+1)
         have q0:0≤m/2^(d+1):=Int.ediv_nonneg a1.1 (by omega)
         have q1:m/2^(d+1)≤m:=Int.ediv_le_self _ a1.1
         have r0:=Int.emod_nonneg m (show (2:Int)^(d+1)≠0 by omega)
         have r1:=Int.emod_lt_of_pos m hp
         have hH:(2:Int)^(d+1)=2*2^d:=by rw [Int.pow_succ,Int.mul_comm]
         have hGH:(2:Int)^(64-(d+1))*2^d=9223372036854775808:=by rw [← Int.pow_add,show 64-(d+1)+d=63 by omega];rfl
         rw [shr_u _ _ (by omega),shl_u _ _ (by omega),hd,Int.toNat_natCast,show (64+e).toNat=64-(d+1) by omega,mod_up' m (show 64-(d+1)≤64 by omega),show 64-(64-(d+1))=d+1 by omega,w64_id (n:=m/2^(d+1)) (by omega) (by omega),and_one_i64,er]
         have hG:=pow_pos (64-(d+1))
         have J:=fun t=>fcmp_Near_j1 (n:=m/2^(d+1)) neg t q0 (by omega)
         rcases Int.lt_trichotomy (m%2^(d+1)) (2^d) with hc | hc | hc
         · have:2^(64-(d+1))*(m%2^(d+1))<9223372036854775808:=by rw [← hGH];exact Int.mul_lt_mul_of_pos_left hc hG
           refine Ev.ifn (by omega) (Ev.ifn (by omega) ((J false).eqr ?_))
           have e1:rnd m (d+1)=m/2^(d+1):=by
            unfold rnd
            rw [if_neg (by omega)]
           rw [e1]
           rfl
         · refine Ev.ifn (by rw [hc,hGH];omega) (Ev.ifp (by rw [hc,hGH]) ((J _).eqr ?_))
           have e1:rnd m (d+1)=if (m/2^(d+1)%2==1)=true then m/2^(d+1)+1 else m/2^(d+1):=by
            unfold rnd
            by_cases ho:m/2^(d+1)%2=1
            · rw [if_pos (.inr ⟨by omega,ho⟩),if_pos (by rw [ho];rfl)]
            · rw [if_neg (by omega),if_neg (by rw [beq_iff_eq];exact ho)]
           rw [e1]
         · have:9223372036854775808<2^(64-(d+1))*(m%2^(d+1)):=by rw [← hGH];exact Int.mul_lt_mul_of_pos_left hc hG
           refine Ev.ifp (by omega) ((J true).eqr ?_)
           have e1:rnd m (d+1)=m/2^(d+1)+1:=by
            unfold rnd
            rw [if_pos (.inl (by omega))]
           rw [e1]
           rfl
       · refine Ev.ifn h3 ?_
         have er:ru m e 0=0:=by
          unfold ru
          rw [show (e-0).toNat=0 by omega,Int.pow_zero,Int.mul_one]
          have:=pow_le_pow (a:=64) (b:=(0-e).toNat) (by omega)
          exact rnd_small a1.1 (by omega)
         rw [er]
         cases neg
         · exact Ev.ifn (by decide) (Ev.same rfl)
         · exact Ev.ifp rfl (Ev.same rfl)
theorem clamp_eq (k c:Int) (hc:0≤c):mn (mx k (-c)) c=min (max k (-c)) c:=by
 unfold mn mx
 split<;>split<;>omega
theorem fcmp_Scale_c {b k:Int} (h:U b):Ev (fun r=>fcmp_Scale.f r b k) (fscale b k):=by
 have hP:=fbits_Parts_c h
 have a1:=pm_range b
 have a2:=pe_range b
 unfold fscale
 by_cases hx:fx b=2047
 · rw [if_pos hx] at hP ⊢
   exact Ev.bind hP (Ev.ifn (by decide) (Ev.bindc (fbits_Clean_c h) (Ev.same rfl)))
 · rw [if_neg hx] at hP ⊢
   refine Ev.bind hP (Ev.ifp rfl ?_)
   dsimp only
   have a3 : -1074≤pe b∧pe b≤972:=⟨a2.1,a2.2.1⟩
   clear a2
   rw [clamp_eq k 5000 (by omega),w64_id (by omega) (by omega)]
   refine Ev.bind (fround_Word_c (e:=pe b+min (max k (-5000)) 5000) (fs b) (m:=pm b) (by unfold U;omega)) (Ev.same ?_)
   rw [ce_id (by omega) (by omega)]
theorem ref13_Less_c {a b:Int} (ha:U a) (hb:U b):Ev (fun k=>gr13_Less.f k a b) (less a b):=by
 have j0 : ∀ t:Bool,t=decide (fk a=4∨fk b=4)→Ev (fun k=>gr13_Less.j0 k a b t) (less a b):=fun t ht=>by
  refine Ev.step (fun k=>gr13_Less.j0.eq_2 ..) ?_
  by_cases h:fk a=4∨fk b=4
  · rw [show less a b=false from decide_eq_false fun k=>h.elim k.1 k.2.1]
    exact Ev.ifp (by rw [ht];exact decide_eq_true h) (Ev.same rfl)
  · have hl:less a b=decide (fkey a<fkey b):=by
     unfold less
     refine decide_eq_decide.2 ⟨fun k=>k.2.2,fun k=>⟨fun z=>h (.inl z),fun z=>h (.inr z),k⟩⟩
    rw [hl]
    refine Ev.ifn (by rw [ht,decide_eq_false h];decide) (Ev.bindc (ref09_Neg_c ha) (Ev.bindc (ref09_Neg_c hb) ?_))
    unfold U at ha hb
    have sa:fs a=decide (a≥9223372036854775808):=rfl
    have sb:fs b=decide (b≥9223372036854775808):=rfl
    unfold fkey
    by_cases h1:a≥9223372036854775808
    · rw [sa,decide_eq_true h1]
      refine Ev.ifp rfl (Ev.step (fun k=>gr13_Less.j1.eq_2 ..) ?_)
      by_cases h2:b≥9223372036854775808
      · rw [sb,decide_eq_true h2]
        refine Ev.ifp rfl (Ev.same ?_)
        simp only [if_true]
        congr 1
        exact decide_eq_decide.2 (by omega)
      · rw [sb,decide_eq_false h2]
        refine Ev.ifn (by decide) (Ev.ifp rfl ?_)
        simp only [if_true,Bool.false_eq_true,if_false]
        by_cases h3:a=9223372036854775808
        · refine Ev.ifp h3 (Ev.same ?_)
          congr 1
          rw [h3]
          by_cases h4:b=0
          · rw [h4];rfl
          · rw [decide_eq_true (by omega)]
            simp [h4]
        · refine Ev.ifn h3 (Ev.same ?_)
          rw [decide_eq_true (by omega)]
    · rw [sa,decide_eq_false h1]
      refine Ev.ifn (by decide) (Ev.step (fun k=>gr13_Less.j1.eq_2 ..) (Ev.ifn (by decide) (Ev.ifn (by decide) ?_)))
      by_cases h2:b≥9223372036854775808
      · rw [sb,decide_eq_true h2]
        refine Ev.ifp rfl (Ev.same ?_)
        simp only [if_true,Bool.false_eq_true,if_false]
        rw [decide_eq_false (by omega)]
      · rw [sb,decide_eq_false h2]
        refine Ev.ifn (by decide) (Ev.same ?_)
        simp only [Bool.false_eq_true,if_false]
 refine Ev.bindc (ref09_Kind_c ha) ?_
 by_cases h1:fk a=4
 · exact Ev.ifp h1 (j0 true (by rw [decide_eq_true (.inl h1)]))
 · refine Ev.ifn h1 (Ev.bindc (ref09_Kind_c hb) (j0 _ ?_))
   by_cases h2:fk b=4
   · rw [h2,decide_eq_true (.inr rfl)];rfl
   · rw [decide_eq_false (fun k=>k.elim h1 h2)]
     simp [h2]
def ab (x:Int):Int:=if x<0 then -x else x
def sgI (s:Bool) (N:Int):Int:=if s then -N else N
def V (b:Int):Int:=pm b*2^(pe b+1074).toNat
def SV (b:Int):Int:=sgI (fs b) (V b)
def mw (b:Int):Int:=fx b*4503599627370496+fr b
theorem V_nonneg (b:Int):0≤V b:=Int.mul_nonneg (pm_range b).1 (by have:=pow_pos (pe b+1074).toNat;omega)
theorem V_low {b:Int} (h:fx b=0):V b=fr b:=by
 unfold V pm pe
 rw [if_pos h,if_pos h]
 show fr b*2^0=_
 rw [Int.pow_zero,Int.mul_one]
theorem V_high {b:Int} {n:Nat} (h:fx b=n+1):V b=(fr b+4503599627370496)*2^n:=by
 unfold V pm pe
 rw [if_neg (by omega),if_neg (by omega),show (fx b-1075+1074).toNat=n by omega]
theorem V_lt {a b:Int} (h:mw a<mw b):V a<V b:=by
 have a1:= @fx_range a
 have a2:= @fr_range a
 have b1:= @fx_range b
 have b2:= @fr_range b
 unfold mw at h
 rcases (show fx a=fx b∨fx a<fx b by omega) with he | he
 · rcases (show fx b=0∨0<fx b by omega) with h0 | h0
   · rw [V_low (by omega),V_low h0]
     omega
   · obtain ⟨n,hn⟩ : ∃ n:Nat,fx b=n+1:=⟨(fx b-1).toNat,by omega⟩
     rw [V_high (by omega:fx a=n+1),V_high hn]
     exact Int.mul_lt_mul_of_pos_right (by omega) (pow_pos n)
 · obtain ⟨n,hn⟩ : ∃ n:Nat,fx b=n+1:=⟨(fx b-1).toNat,by omega⟩
   rw [V_high hn]
   have hp:=pow_pos n
   have hb:4503599627370496*2^n≤(fr b+4503599627370496)*2^n:=Int.mul_le_mul_of_nonneg_right (by omega) (by omega)
   rcases (show fx a=0∨0<fx a by omega) with h0 | h0
   · rw [V_low h0]
     omega
   · obtain ⟨m,hm⟩ : ∃ m:Nat,fx a=m+1:=⟨(fx a-1).toNat,by omega⟩
     rw [V_high hm]
     have hq:=pow_pos m
     have h1:(fr a+4503599627370496)*2^m<9007199254740992*2^m:=Int.mul_lt_mul_of_pos_right (by omega) hq
     have h2:=pow_le_pow (show m+1≤n by omega)
     rw [Int.pow_succ] at h2
     omega
theorem V_same {a b:Int} (h:mw a=mw b):V a=V b:=by
 have a1:= @fx_range a
 have a2:= @fr_range a
 have b1:= @fx_range b
 have b2:= @fr_range b
 unfold mw at h
 have h1:fx a=fx b:=by omega
 have h2:fr a=fr b:=by omega
 unfold V pm pe
 rw [h1,h2]
theorem V_iff (a b:Int):(V a<V b↔mw a<mw b)∧(V a=V b↔mw a=mw b):=by
 rcases Int.lt_trichotomy (mw a) (mw b) with h | h | h
 · have:=V_lt h
   omega
 · have:=V_same h
   omega
 · have:=V_lt h
   omega
theorem mw_nonneg (b:Int):0≤mw b:=by
 have a1:= @fx_range b
 have a2:= @fr_range b
 unfold mw
 omega
theorem V_zero (b:Int):V b=0↔mw b=0:=by
 have h:=(V_iff b 0).2
 have e1:V 0=0:=by decide
 have e2:mw 0=0:=by decide
 rw [e1,e2] at h
 exact h
theorem fkey_mw {b:Int} (h:U b):fkey b=sgI (fs b) (mw b):=by
 unfold U at h
 unfold fkey sgI fs mw fx fr
 by_cases hb:b≥9223372036854775808
 · rw [decide_eq_true hb,if_pos rfl,if_pos rfl];omega
 · rw [decide_eq_false hb,if_neg (by decide),if_neg (by decide)];omega
theorem key_iff {a b:Int} (ha:U a) (hb:U b):(SV a<SV b↔fkey a<fkey b)∧(SV a=SV b↔fkey a=fkey b):=by
 rw [fkey_mw ha,fkey_mw hb]
 have h1:=V_iff a b
 have h2:=V_iff b a
 have h3:=V_nonneg a
 have h4:=V_nonneg b
 have h5:=mw_nonneg a
 have h6:=mw_nonneg b
 have h7:=V_zero a
 have h8:=V_zero b
 unfold SV sgI
 cases fs a<;>cases fs b<;>simp only [if_true,Bool.false_eq_true,if_false]<;>omega
theorem V_exact {M l:Int} (h0:0<M) (h1:M<9007199254740992) (hl0 : -1074≤l) (hl1:l≤971):fx (Rd M l)≠2047∧fs (Rd M l)=false∧V (Rd M l)=M*2^(l+1074).toNat∧U (Rd M l):=by
 have b0:=bl_pos h0
 have b1:bl M≤53:=bl_le_of (n:=53) h1
 have hu:un M l=max (bl M+l-53) (-1074):=rfl
 have q:=un_q (e:=l) h0
 have hz:(un M l-l).toNat=0:=by omega
 have hR:Rd M l=(un M l+1074)*4503599627370496+M*2^(l-un M l).toNat:=by
  rw [Rd_exact h0 (by omega) (by rw [hz,Int.pow_zero,Int.emod_one]),hz,Int.pow_zero,Int.ediv_one]
 rw [hz,Int.pow_zero,Int.ediv_one] at q
 rw [hR]
 have hV:M*2^(l+1074).toNat=M*2^(l-un M l).toNat*2^(un M l+1074).toNat:=by
  rw [Int.mul_assoc,← Int.pow_add]
  congr 2
  omega
 rw [hV]
 have hu1 : -1074≤un M l:=un_ge M l
 have hu2:un M l≤971:=by omega
 generalize M*2^(l-un M l).toNat=w at *
 generalize un M l=u at *
 clear hR hV hz hu
 obtain ⟨w0,w1,w2⟩:=q
 have hsp:=sgn_parts (x:=(u+1074)*4503599627370496+w) (by omega) (by omega) false
 have es:sgn false ((u+1074)*4503599627370496+w)=(u+1074)*4503599627370496+w:=rfl
 rw [es] at hsp
 obtain ⟨s1,s2,s3,s4⟩:=hsp
 generalize hb:(u+1074)*4503599627370496+w=b at *
 refine ⟨by omega,s2, ?_,s1⟩
 rcases Int.lt_or_le w 4503599627370496 with h | h
 · obtain rfl:u= -1074:=by omega
   rw [V_low (by omega)]
   show fr b=w*2^0
   rw [Int.pow_zero,Int.mul_one]
   omega
 · rw [V_high (n:=(u+1074).toNat) (by omega)]
   congr 1
   omega
def fpart (n:Int):Int:=fdiv 4607182418800017408 (fint n)
theorem fpart_U (n:Int):U (fpart n):=fdiv_U _ _
def facI:Nat→Int
 | 0=>1
 | n+1=>facI n*(n+1)
def hexp (r:Int):Nat→Int→Int
 | 0,p=>p
 | i+1,p=>hexp r i (fadd (fmul p r) (fpart (facI i)))
theorem hexp_U (r:Int) : ∀ (i:Nat) {p:Int},U p→U (hexp r i p)
 | 0,_,h=>h
 | i+1,_,h=>hexp_U r i (fadd_U (fmul_U _ _) (fpart_U _))
def ek (x:Int):Int:=(near (fmul x 4609176140021203710)).1
def er (x:Int):Int:=fsub (fsub x (fmul (fint (ek x)) 4604418534311723008)) (fmul (fint (ek x)) 4461442080421002358)
def fexp (x:Int):Int:=if fk x=4 then NAN else if less (fint 710) x=true then INF else if less x (fint (-746))=true then 0 else fscale (hexp (er x) 13 (fpart (facI 13))) (ek x)
def hlog (z:Int):Nat→Int→Int
 | 0,p=>p
 | i+1,p=>hlog z i (fadd (fmul p z) (fpart (2*((i:Int)+1)+1)))
def ls (f:Int):Int:=fdiv (fsub f 4607182418800017408) (fadd 4611686018427387904 (fsub f 4607182418800017408))
def lz (f:Int):Int:=fmul (ls f) (ls f)
def lp (f:Int):Int:=hlog (lz f) 9 (fpart 21)
def ly (f:Int):Int:=fadd (fadd (ls f) (ls f)) (fmul (fadd (ls f) (ls f)) (fmul (lp f) (lz f)))
def flogS (f k:Int):Int:=if k=0 then ly f else fadd (fmul (fint k) 4604418534311723008) (fadd (ly f) (fmul (fint k) 4461442080421002358))
def splitF (x:Int):Int × Int:=if less 4609047870845172685 (Rd (pm x) (1-bl (pm x)))=true then (Rd (pm x) (-bl (pm x)),pe x+bl (pm x)) else (Rd (pm x) (1-bl (pm x)),pe x+bl (pm x)-1)
def flog (x:Int):Int:=if fk x=0 then sgn true INF else if fk x=4∨fs x=true then NAN else if fk x=3 then x else flogS (splitF x).1 (splitF x).2
theorem V_one:V 4607182418800017408=2^1074∧fs 4607182418800017408=false∧fk 4607182418800017408≠4:=by
 refine ⟨?_,by decide,by decide⟩
 rw [V_high (n:=1022) (by decide)]
 have:fr 4607182418800017408+4503599627370496=2^(52:Nat):=by decide
 rw [this,← Int.pow_add]
theorem U_lit:U 4607182418800017408∧U 4611686018427387904∧U 4609047870845172685∧U 4604418534311723008∧U 4461442080421002358∧U 4609176140021203710:=by unfold U;omega
theorem kernel_part_c {n:Int} (h0 : -9223372036854775808≤n) (h1:n≤9223372036854775807):Ev (fun k=>kernel_part.f k n) (fpart n) :=
 Ev.bind (fround_FromInt_c h0 h1) (Ev.bind (fprod_Div_c U_lit.1 (fint_U n)) (Ev.same rfl))
theorem facI_le:facI 0=1∧facI 1=1∧facI 2=2∧facI 3=6∧facI 4=24∧facI 5=120∧facI 6=720∧facI 7=5040∧facI 8=40320∧facI 9=362880∧facI 10=3628800∧facI 11=39916800∧facI 12=479001600∧facI 13=6227020800:=by decide
theorem facI_range {n:Nat} (h:n≤13):1≤facI n∧facI n≤6227020800:=by
 have:=facI_le
 rcases (show n=0∨n=1∨n=2∨n=3∨n=4∨n=5∨n=6∨n=7∨n=8∨n=9∨n=10∨n=11∨n=12∨n=13 by omega) with h | h | h | h | h | h | h | h | h | h | h | h | h | h<;>subst h<;>omega
theorem word_make {m d:Int} (h0:0<m) (h1:m<9007199254740992) (hd:d=0∨d=1):Mk false m (d-bl m)=(Rd m (d-bl m),true):=by
 have b1:bl m≤53:=bl_le_of (n:=53) (by have:(2:Int)^53=9007199254740992:=rfl
                                       omega)
 have b2:=bl_pos h0
 have hu:un m (d-bl m)=d-53:=by unfold un;omega
 have:=Mk_yes false (m:=m) (e:=d-bl m) (by omega) (by omega) (by
  rw [hu,show (d-53-(d-bl m)).toNat=0 by omega,Int.pow_zero,Int.emod_one])
 rw [this]
 rfl
theorem kernel_split_c {x:Int} (h:U x) (hx:fx x≠2047) (h0:0<pm x):Ev (fun k=>kernel_split.f k x) (splitF x):=by
 have P:=fbits_Parts_c h
 rw [if_neg hx] at P
 have pr:=pm_range x
 have pe_:=pe_range x
 have b1:bl (pm x)≤53:=bl_le_of (n:=53) (by have:(2:Int)^53=9007199254740992:=rfl
                                            omega)
 have b2:=bl_pos h0
 have hU:U (pm x):=by unfold U;omega
 have hp:=pe_.2.2.1 hx
 refine Ev.bind P (Ev.bind (limb_Len_c hU) ?_)
 simp only [w64_id (show -9223372036854775808≤1-bl (pm x) by omega) (by omega),w64_id (show -9223372036854775808≤ -bl (pm x) by omega) (by omega),w64_id (show -9223372036854775808≤pe x+bl (pm x) by omega) (by omega),w64_id (show -9223372036854775808≤pe x+bl (pm x)-1 by omega) (by omega)]
 have M1:=fbits_Make_c false hU (e:=1-bl (pm x)) (by omega) (by omega)
 have M2:=fbits_Make_c false hU (e:= -bl (pm x)) (by omega) (by omega)
 rw [word_make h0 pr.2 (.inr rfl)] at M1
 rw [show -bl (pm x)=0-bl (pm x) by omega,word_make h0 pr.2 (.inl rfl)] at M2
 have v1:=V_exact h0 pr.2 (l:=1-bl (pm x)) (by omega) (by omega)
 refine Ev.bind M1 (Ev.bindc (fcmp_Less_c U_lit.2.2.1 v1.2.2.2) ?_)
 unfold splitF
 by_cases hl:less 4609047870845172685 (Rd (pm x) (1-bl (pm x)))=true
 · rw [if_pos hl]
   refine Ev.ifp hl ?_
   rw [show -bl (pm x)=0-bl (pm x) by omega]
   exact Ev.bind M2 (Ev.same rfl)
 · rw [if_neg hl]
   exact Ev.ifn hl (Ev.same rfl)
theorem ls_U (f:Int):U (ls f):=fdiv_U _ _
theorem lz_U (f:Int):U (lz f):=fmul_U _ _
theorem ly_U (f:Int):U (ly f):=fadd_U (fadd_U (ls_U f) (ls_U f)) (fmul_U _ _)
theorem fsub_U {a b:Int} (ha:U a):U (fsub a b):=fadd_U ha (fl_U b)
theorem kernel_Log_l {f e p:Int} (he0 : -5000≤e) (he1:e≤5000) (hp:U p) (i:Nat) (hi:i≤9) (hq:hlog (lz f) i p=lp f):Ev (fun k=>kernel_Log.l0 k e (ls f) (lz f) p i) (flogS f e):=by
 induction i generalizing p with
 | zero =>
   have hq:p=lp f:=hq
   rw [hq]
   rw [hq] at hp
   refine Ev.step (fun k=>kernel_Log.l0.eq_2 ..) (Ev.ifn (by omega) (Ev.bind (fsum_Add_c (ls_U f) (ls_U f)) (Ev.bind (fprod_Mul_c hp (lz_U f)) (Ev.bind (fprod_Mul_c (fadd_U (ls_U f) (ls_U f)) (fmul_U _ _)) (Ev.bind (fsum_Add_c (fadd_U (ls_U f) (ls_U f)) (fmul_U _ _)) ?_)))))
   unfold flogS
   by_cases h0:e=0
   · rw [if_pos h0]
     exact Ev.ifp h0 (Ev.same rfl)
   · rw [if_neg h0]
     exact Ev.ifn h0 (Ev.bind (fround_FromInt_c (by omega) (by omega)) (Ev.bind (fprod_Mul_c (fint_U e) U_lit.2.2.2.1) (Ev.bind (fprod_Mul_c (fint_U e) U_lit.2.2.2.2.1) (Ev.bind (fsum_Add_c (ly_U f) (fmul_U _ _)) (Ev.bind (fsum_Add_c (fmul_U _ _) (fadd_U (ly_U f) (fmul_U _ _))) (Ev.same rfl))))))
 | succ i ih =>
   have e1:wrap64 (wrap64 (2*((i+1:Nat):Int))+1)=2*((i:Int)+1)+1:=by rw [w64_id (n:=2*((i+1:Nat):Int)) (by omega) (by omega),w64_id (by omega) (by omega)];omega
   have e2:wrap64 (((i+1:Nat):Int)-1)=(i:Int):=by rw [w64_id (by omega) (by omega)];omega
   refine Ev.step (fun k=>kernel_Log.l0.eq_2 ..) (Ev.ifp (by omega) ?_)
   simp only [e1,e2]
   exact Ev.bind (fprod_Mul_c hp (lz_U f)) (Ev.bind (kernel_part_c (by omega) (by omega)) (Ev.bind (fsum_Add_c (fmul_U _ _) (fpart_U _)) (ih (fadd_U (fmul_U _ _) (fpart_U _)) (by omega) hq)))
theorem kernel_Log_c {x:Int} (h:U x):Ev (fun k=>kernel_Log.f k x) (flog x):=by
 refine Ev.bindc (fbits_Kind_c h) ?_
 unfold flog
 by_cases h0:fk x=0
 · rw [if_pos h0]
   exact Ev.ifp h0 (Ev.bindc (fbits_Inf_c true) (Ev.same rfl))
 rw [if_neg h0]
 refine Ev.ifn h0 ?_
 have j0 : ∀ b:Bool,b=decide (fk x=4∨fs x=true)→Ev (fun k=>kernel_Log.j0 k x (fk x) b) (if fk x=4∨fs x=true then NAN else if fk x=3 then x else flogS (splitF x).1 (splitF x).2):=fun b hb=>by
  refine Ev.step (fun k=>kernel_Log.j0.eq_2 ..) ?_
  by_cases h4:fk x=4∨fs x=true
  · rw [if_pos h4]
    exact Ev.ifp (by rw [hb];exact decide_eq_true h4) (Ev.bindc fbits_Nan_c (Ev.same rfl))
  · rw [if_neg h4]
    refine Ev.ifn (by rw [hb,decide_eq_false h4];decide) ?_
    by_cases h3:fk x=3
    · rw [if_pos h3]
      exact Ev.ifp h3 (Ev.same rfl)
    · rw [if_neg h3]
      have hx:=fk_fin (fun k=>h4 (.inl k)) h3
      have hp:0<pm x:=by
       have:=(fk_eq x).2.2.2.1
       have:=pm_range x
       rcases (show pm x=0∨0<pm x by omega) with k | k
       · exact absurd ((fk_eq x).2.2.2.1.2 ⟨hx,k⟩) h0
       · exact k
      have pr:=pm_range x
      have pe_:=pe_range x
      have hpe:=pe_.2.2.1 hx
      have b1:bl (pm x)≤53:=bl_le_of (n:=53) (by have:(2:Int)^53=9007199254740992:=rfl
                                                 omega)
      have b2:=bl_pos hp
      have v1:=V_exact hp pr.2 (l:=1-bl (pm x)) (by omega) (by omega)
      have v2:=V_exact hp pr.2 (l:= -bl (pm x)) (by omega) (by omega)
      have hU:U (splitF x).1∧ -5000≤(splitF x).2∧(splitF x).2≤5000:=by
       unfold splitF
       split
       · exact ⟨v2.2.2.2,by dsimp only;omega,by dsimp only;omega⟩
       · exact ⟨v1.2.2.2,by dsimp only;omega,by dsimp only;omega⟩
      refine Ev.ifn h3 (Ev.bind (kernel_split_c h hx hp) (Ev.bind (fsum_Sub_c hU.1 U_lit.1) (Ev.bind (fsum_Add_c U_lit.2.1 (fsub_U hU.1)) (Ev.bind (fprod_Div_c (fsub_U hU.1) (fadd_U U_lit.2.1 (fsub_U hU.1))) (Ev.bind (fprod_Mul_c (fdiv_U _ _) (fdiv_U _ _)) (Ev.bind (kernel_part_c (by omega) (by omega)) ?_))))))
      exact kernel_Log_l hU.2.1 hU.2.2 (fpart_U _) 9 (by omega) rfl
 by_cases h4:fk x=4
 · exact Ev.ifp h4 (j0 true (by rw [decide_eq_true (.inl h4)]))
 · refine Ev.ifn h4 (Ev.bindc (fbits_Neg_c h) (j0 _ ?_))
   cases hs:fs x
   · rw [decide_eq_false (by rintro (k | k);exact h4 k;cases k)]
   · rw [decide_eq_true (.inr rfl)]
theorem ref13_Less_c' {a b:Int} (ha:U a) (hb:U b):Ev (fun k=>gr13_Less.f k a b) (less a b):=ref13_Less_c ha hb
theorem near_range {b:Int} (h:U b) : -9223372036854775808≤(near b).1∧(near b).1≤9223372036854775807:=by
 unfold near
 split
 · exact ⟨by decide,by decide⟩
 · rename_i hh
   have p:=pm_range b
   have key:0≤ru (pm b) (pe b) 0∧ru (pm b) (pe b) 0≤9223372036854775807:=by
    have l1:=bl_lt (pm b)
    have hb:bl (pm b)+pe b≤62:=by
     rcases Int.lt_or_le 62 (bl (pm b)+pe b) with k | k
     · exact absurd (.inr k) hh
     · exact k
    have b0:=bl_nonneg (pm b)
    by_cases h2:0≤pe b
    · have hp:=pow_pos (pe b).toNat
      have h3:=Int.mul_lt_mul_of_pos_right l1 hp
      rw [← Int.pow_add] at h3
      have h4:=pow_le_pow (a:=(bl (pm b)).toNat+(pe b).toNat) (b:=62) (by omega)
      have e62:(2:Int)^62=4611686018427387904:=rfl
      have hge:0≤pm b*2^(pe b).toNat:=Int.mul_nonneg p.1 (Int.le_of_lt hp)
      unfold ru
      rw [show (0-pe b).toNat=0 by omega,rnd_zero,show pe b-0=pe b by omega]
      omega
    · unfold ru
      rw [show (pe b-0).toNat=0 by omega,Int.pow_zero,Int.mul_one]
      have r:=rnd_le (pm b) (0-pe b).toNat
      have q:=Int.ediv_le_self (2^(0-pe b).toNat) p.1
      have q2:=Int.ediv_nonneg p.1 (Int.le_of_lt (pow_pos (0-pe b).toNat))
      omega
   split
   · exact ⟨by dsimp only;omega,by dsimp only;omega⟩
   · exact ⟨by dsimp only;omega,by dsimp only;omega⟩
theorem er_U {x:Int} (h:U x):U (er x):=fsub_U (fsub_U h)
def facL (i:Nat):List Int:=(List.range 14).map fun j=>if j≤i then facI j else 0
theorem facL_len (i:Nat):(facL i).length=14:=by simp [facL]
theorem facL_set : ∀ i:Fin 13,(facL i.1).set (i.1+1) (facI (i.1+1))=facL (i.1+1):=by decide
theorem facL_get : ∀ i:Fin 14,∀ j:Fin 14,j.1≤i.1→(facL i.1).getD j.1 0=facI j.1:=by decide
theorem facL_rd {i j:Nat} (hi:i<14) (hj:j≤i):rd (facL i) (j:Int)=facI j:=facL_get ⟨i,hi⟩ ⟨j,by omega⟩ hj
theorem kernel_Exp_l1 {r p e:Int} (hr:U r) (hp:U p) (i:Nat) (hi:i≤13):Ev (fun k=>kernel_Exp.l1 k e r (facL 13) p ((i:Int)-1)) (fscale (hexp r i p) e):=by
 induction i generalizing p with
 | zero=>exact Ev.step (fun k=>kernel_Exp.l1.eq_2 ..) (Ev.ifn (by omega) (Ev.bind (fcmp_Scale_c hp) (Ev.same rfl)))
 | succ i ih =>
   have e0:((i+1:Nat):Int)-1=(i:Int):=by omega
   have e2:wrap64 ((i:Int)-1)=(i:Int)-1:=w64_id (by omega) (by omega)
   have f1:=facI_range (n:=i) (by omega)
   rw [e0]
   refine Ev.step (fun k=>kernel_Exp.l1.eq_2 ..) (Ev.ifp (by omega) (Ev.bind (fprod_Mul_c hp hr) (Ev.ifp (by omega) (Ev.ifp (by omega) (Ev.ifp (by rw [facL_len];omega) ?_)))))
   rw [facL_rd (by omega) (by omega),e2]
   exact Ev.bind (kernel_part_c (by omega) (by omega)) (Ev.bind (fsum_Add_c (fmul_U _ _) (fpart_U _)) (ih (fadd_U (fmul_U _ _) (fpart_U _)) (by omega)))
theorem kernel_Exp_l0 {r e:Int} (hr:U r) (d:Nat) : ∀ i:Nat,i+d=13→Ev (fun k=>kernel_Exp.l0 k e r (facL i) i) (fscale (hexp r 13 (fpart (facI 13))) e):=by
 induction d with
 | zero =>
   intro i hi
   obtain rfl:i=13:=by omega
   have f1:=facI_range (n:=13) (by omega)
   refine Ev.step (fun k=>kernel_Exp.l0.eq_2 ..) (Ev.ifn (by omega) (Ev.ifp (by rw [facL_len];omega) ?_))
   rw [show (13:Int)=((13:Nat):Int) from rfl,facL_rd (by omega) (by omega)]
   exact Ev.bind (kernel_part_c (by omega) (by omega)) (kernel_Exp_l1 hr (fpart_U _) 13 (by omega))
 | succ d ih =>
   intro i hi
   have f1:=facI_range (n:=i) (by omega)
   have f2:=facI_range (n:=i+1) (by omega)
   have e1:wrap64 ((i:Int)+1)=((i+1:Nat):Int):=by rw [w64_id (by omega) (by omega)];rfl
   have e2:wrap64 (facI i*((i+1:Nat):Int))=facI (i+1):=by
    have:facI i*((i+1:Nat):Int)=facI (i+1):=rfl
    rw [this,w64_id (by omega) (by omega)]
   refine Ev.step (fun k=>kernel_Exp.l0.eq_2 ..) (Ev.ifp (by omega) ?_)
   rw [facL_rd (by omega) (by omega)]
   simp only [e1,e2]
   refine Ev.ifp (by omega) (Ev.ifp (by omega) (Ev.ifp (by rw [facL_len];omega) (Ev.ifp (by omega) (Ev.ifp (by omega) (Ev.ifp (by rw [facL_len];omega) ?_)))))
   rw [show (((i+1:Nat):Int)).toNat=i+1 by omega,facL_set ⟨i,by omega⟩]
   exact ih (i+1) (by omega)
theorem fint_710:fint 710=4649456441864749056:=by decide
theorem fint_746:fint (-746)=13873145138068324352:=by decide
theorem kernel_Exp_c {x:Int} (h:U x):Ev (fun k=>kernel_Exp.f k x) (fexp x):=by
 refine Ev.bindc (fbits_Kind_c h) ?_
 unfold fexp
 by_cases h4:fk x=4
 · rw [if_pos h4]
   exact Ev.ifp h4 (Ev.bindc fbits_Nan_c (Ev.same rfl))
 rw [if_neg h4]
 have u1:U 4649456441864749056:=by unfold U;omega
 have u2:U 13873145138068324352:=by unfold U;omega
 rw [fint_710,fint_746]
 refine Ev.ifn h4 (Ev.bindc (fcmp_Less_c u1 h) ?_)
 by_cases h1:less 4649456441864749056 x=true
 · rw [if_pos h1]
   exact Ev.ifp h1 (Ev.bindc (fbits_Inf_c false) (Ev.same rfl))
 rw [if_neg h1]
 refine Ev.ifn h1 (Ev.bindc (fcmp_Less_c h u2) ?_)
 by_cases h2:less x 13873145138068324352=true
 · rw [if_pos h2]
   exact Ev.ifp h2 (Ev.same rfl)
 rw [if_neg h2]
 have nr:=near_range (fmul_U x 4609176140021203710)
 refine Ev.ifn h2 (Ev.bind (fprod_Mul_c h U_lit.2.2.2.2.2) (Ev.bind (fcmp_Near_c (fmul_U _ _)) (Ev.bind (fround_FromInt_c nr.1 nr.2) (Ev.bind (fprod_Mul_c (fint_U _) U_lit.2.2.2.1) (Ev.bind (fsum_Sub_c h (fmul_U _ _)) (Ev.bind (fprod_Mul_c (fint_U _) U_lit.2.2.2.2.1) (Ev.bind (fsum_Sub_c (fsub_U h) (fmul_U _ _)) ?_)))))))
 exact kernel_Exp_l0 (er_U h) 13 0 (by omega)
theorem rnd_mono {M M':Int} (d:Nat) (h:M≤M'):rnd M d≤rnd M' d:=by
 have hp:=pow_pos d
 have a:=rnd_le M d
 have b:=rnd_le M' d
 have q:=Int.ediv_le_ediv hp h
 rcases (show M/2^d<M'/2^d∨M/2^d=M'/2^d by omega) with k | k
 · omega
 · have e1:=Int.mul_ediv_add_emod M (2^d)
   have e2:=Int.mul_ediv_add_emod M' (2^d)
   unfold rnd
   rw [← k] at e2 ⊢
   generalize M%2^d=r at *
   generalize M'%2^d=r' at *
   generalize M/2^d=c at *
   clear a b q k
   have:r≤r':=by omega
   clear e1 e2 h
   generalize (2:Int)^d=G at *
   split
   · rw [if_pos (by omega)];omega
   · split<;>omega
theorem Rd_mono0 {m m' e:Int} (h0:0<m) (h:m≤m'):Rd m e≤Rd m' e:=by
 have u:un m e≤un m' e:=by unfold un;have:=bl_mono h;omega
 have r:=Rd_range m e
 have a:=ru_units (m:=m) (e:=e) h0
 have b:=ru_units (m:=m') (e:=e) (by omega)
 have g:=un_ge m e
 by_cases hi:un m' e>971
 · have:Rd m' e=INF:=by unfold Rd;rw [if_neg (by omega),if_pos hi]
   omega
 have e1:Rd m e=(un m e+1074)*4503599627370496+ru m e (un m e):=by unfold Rd;rw [if_neg (by omega),if_neg (by omega)]
 have e2:Rd m' e=(un m' e+1074)*4503599627370496+ru m' e (un m' e):=by unfold Rd;rw [if_neg (by omega),if_neg hi]
 rw [e1,e2]
 rcases (show un m e<un m' e∨un m e=un m' e by omega) with k | k
 · omega
 · have:ru m e (un m e)≤ru m' e (un m' e):=by
    rw [k]
    unfold ru
    exact rnd_mono _ (Int.mul_le_mul_of_nonneg_right h (by have:=pow_pos (e-un m' e).toNat;omega))
   omega
theorem Rd_mono {m m' e e':Int} (h0:0<m) (h0':0<m') (he : -4000≤e) (he' : -4000≤e') (h:m*2^(e+4000).toNat≤m'*2^(e'+4000).toNat):Rd m e≤Rd m' e':=by
 rw [← Rd_scale h0 e (e+4000).toNat,← Rd_scale h0' e' (e'+4000).toNat,show e-((e+4000).toNat:Int)= -4000 by omega,show e'-((e'+4000).toNat:Int)= -4000 by omega]
 exact Rd_mono0 (Int.mul_pos h0 (pow_pos _)) h
def Fin' (b:Int):Prop:=U b∧fx b≠2047
theorem sgn_mw {w:Int} (h0:0≤w) (h1:w≤INF) (neg:Bool):mw (sgn neg w)=w∧fs (sgn neg w)=neg∧U (sgn neg w)∧V (sgn neg w)=V w∧(w<INF→fx (sgn neg w)≠2047):=by
 unfold INF at *
 have s:=sgn_parts h0 (by omega) neg
 have s':=sgn_parts h0 (by omega) false
 have e:mw (sgn neg w)=w:=by unfold mw;rw [s.2.2.1,s.2.2.2];omega
 have e':mw w=w:=by
  have:mw (sgn false w)=w:=by unfold mw;rw [s'.2.2.1,s'.2.2.2];omega
  exact this
 refine ⟨e,s.2.1,s.1,V_same (by rw [e,e']),fun h=> ?_⟩
 rw [s.2.2.1]
 omega
theorem V_le_iff (a b:Int):V a≤V b↔mw a≤mw b:=by
 have:=V_iff a b
 constructor
 · intro h
   rcases Int.lt_or_le (mw b) (mw a) with k | k
   · have:=(V_iff b a).1.2 k;omega
   · exact k
 · intro h
   rcases (show mw a<mw b∨mw a=mw b by omega) with k | k
   · have:=this.1.2 k;omega
   · have:=this.2.2 k;omega
def Rp (S:Int):Prop:= ∃ B,U B∧fx B≠2047∧V B=ab S
theorem Rp_neg {S:Int} (h:Rp S):Rp (-S):=by
 obtain ⟨B,h1,h2,h3⟩:=h
 refine ⟨B,h1,h2, ?_⟩
 rw [h3]
 unfold ab
 split<;>split<;>omega
theorem mw_fin {b:Int} (h:fx b≠2047):mw b<INF:=by
 have:= @fx_range b
 have:= @fr_range b
 unfold mw INF
 omega
theorem V_scale (B:Int):V B*2^2926=pm B*2^(pe B+4000).toNat:=by
 have:=(pe_range B).1
 unfold V
 rw [Int.mul_assoc,← Int.pow_add,show (pe B+1074).toNat+2926=(pe B+4000).toNat by omega]
theorem Rd_le {m e H:Int} (h0:0<m) (he : -4000≤e) (hH:Rp H) (h:m*2^(e+4000).toNat≤H*2^2926):V (Rd m e)≤H∧Rd m e<INF:=by
 obtain ⟨B,h1,h2,h3⟩:=hH
 have hX:0<m*2^(e+4000).toNat:=Int.mul_pos h0 (pow_pos _)
 have hp:(0:Int)<2^2926:=pow_pos 2926
 have H0:0<H:=by
  rcases Int.lt_or_le 0 H with k | k
  · exact k
  · have:=Int.mul_nonpos_of_nonpos_of_nonneg k (Int.le_of_lt hp);omega
 have eH:ab H=H:=by unfold ab;rw [if_neg (by omega)]
 rw [eH] at h3
 rw [← h3,V_scale] at h
 have pB:0<pm B:=by
  have:=pm_range B
  rcases (show pm B=0∨0<pm B by omega) with k | k
  · rw [k,Int.zero_mul] at h;omega
  · exact k
 have hm:=Rd_mono h0 pB he (by have:=(pe_range B).1;omega) h
 rw [Rd_parts h2] at hm
 have hi:=mw_fin h2
 have r:=Rd_range m e
 have e1:mw (Rd m e)=Rd m e:=(sgn_mw r.1 r.2 false).1
 unfold mw at hi
 refine ⟨?_,by omega⟩
 rw [← h3,V_le_iff,e1]
 exact hm
theorem Rd_ge {m e L:Int} (h0:0<m) (he : -4000≤e) (hL:Rp L) (h:L*2^2926≤m*2^(e+4000).toNat):L≤V (Rd m e):=by
 obtain ⟨B,h1,h2,h3⟩:=hL
 rcases Int.lt_or_le 0 L with k | k
 · have eL:ab L=L:=by unfold ab;rw [if_neg (by omega)]
   rw [eL] at h3
   rw [← h3,V_scale] at h
   have pB:0<pm B:=by
    have:=pm_range B
    rcases (show pm B=0∨0<pm B by omega) with k2 | k2
    · have:V B=0:=by unfold V;rw [k2,Int.zero_mul]
      omega
    · exact k2
   have hm:=Rd_mono pB h0 (by have:=(pe_range B).1;omega) he h
   rw [Rd_parts h2] at hm
   have r:=Rd_range m e
   have e1:mw (Rd m e)=Rd m e:=(sgn_mw r.1 r.2 false).1
   rw [← h3,V_le_iff,e1]
   exact hm
 · have:=V_nonneg (Rd m e);omega
theorem SV_sgn {w:Int} (h0:0≤w) (h1:w≤INF) (neg:Bool):SV (sgn neg w)=sgI neg (V w):=by
 have s:=sgn_mw h0 h1 neg
 unfold SV
 rw [s.2.1,s.2.2.2.1]
theorem V_zero0:V 0=0:=by decide
theorem btw {neg:Bool} {m e L H:Int} (h0:0≤m) (he : -4000≤e) (hL:Rp L) (hH:Rp H) (h1:L*2^2926≤sgI neg (m*2^(e+4000).toNat)) (h2:sgI neg (m*2^(e+4000).toNat)≤H*2^2926):Fin' (sgn neg (Rd m e))∧L≤SV (sgn neg (Rd m e))∧SV (sgn neg (Rd m e))≤H:=by
 have r:=Rd_range m e
 have s:=sgn_mw r.1 r.2 neg
 rw [SV_sgn r.1 r.2]
 have hp:(0:Int)<2^2926:=pow_pos 2926
 rcases (show m=0∨0<m by omega) with rfl | hm
 · rw [Int.zero_mul] at h1 h2
   have z:sgI neg (0:Int)=0:=by cases neg<;>rfl
   rw [z] at h1 h2
   rw [Rd_zero,V_zero0,z]
   rw [Rd_zero] at s
   refine ⟨⟨s.2.2.1,s.2.2.2.2 (by decide)⟩, ?_, ?_⟩
   · rcases Int.lt_or_le 0 L with k | k
     · have:=Int.mul_pos k hp;omega
     · exact k
   · rcases Int.lt_or_le H 0 with k | k
     · have:=Int.mul_neg_of_neg_of_pos k hp;omega
     · exact k
 · cases neg
   · have A:=Rd_le hm he hH h2
     have B:=Rd_ge hm he hL h1
     exact ⟨⟨s.2.2.1,s.2.2.2.2 A.2⟩,B,A.1⟩
   · have h1:L*2^2926≤ -(m*2^(e+4000).toNat):=h1
     have h2 : -(m*2^(e+4000).toNat)≤H*2^2926:=h2
     have A:=Rd_le hm he (Rp_neg hL) (by rw [Int.neg_mul];omega)
     have B:=Rd_ge hm he (Rp_neg hH) (by rw [Int.neg_mul];omega)
     refine ⟨⟨s.2.2.1,s.2.2.2.2 A.2⟩, ?_, ?_⟩
     · show L≤ -(V (Rd m e));omega
     · show -(V (Rd m e))≤H;omega
theorem fin_fk {b:Int} (h:fx b≠2047):fk b≠4∧fk b≠3:=⟨fun k=>h ((fk_eq b).1.1 k).1,fun k=>h ((fk_eq b).2.1.1 k).1⟩
theorem sgI_add (s:Bool) (x y:Int):sgI s x+sgI s y=sgI s (x+y):=by cases s;rfl;show -x+ -y= -(x+y);omega
theorem sgI_pull (s:Bool) (x y:Int):sgI s x*y=sgI s (x*y):=by cases s;rfl;exact Int.neg_mul ..
theorem sgI_not (s:Bool) (x:Int):sgI (!s) x= -(sgI s x):=by cases s;rfl;show x= - -x;omega
theorem SV_split (b:Int) {g:Int} (hg : -1074≤g) (h:g≤pe b):SV b*2^2926=sgI (fs b) (pm b*2^(pe b-g).toNat)*2^(g+4000).toNat:=by
 unfold SV
 rw [sgI_pull,V_scale,sgI_pull,Int.mul_assoc,← Int.pow_add,show (pe b-g).toNat+(g+4000).toNat=(pe b+4000).toNat by omega]
theorem add_btw {a b L H:Int} (ha:Fin' a) (hb:Fin' b) (hL:Rp L) (hH:Rp H) (h1:L≤SV a+SV b) (h2:SV a+SV b≤H):Fin' (fadd a b)∧L≤SV (fadd a b)∧SV (fadd a b)≤H:=by
 have ka:=fin_fk ha.2
 have kb:=fin_fk hb.2
 have e:fadd a b=fsF a b:=by
  unfold fadd
  rw [if_neg (by omega),if_neg (by omega),if_neg (by omega),if_neg (by omega)]
 rw [e]
 have pa:=(pe_range a).1
 have pb:=(pe_range b).1
 have sa:=SV_split a (g:=min (pe a) (pe b)) (by omega) (by omega)
 have sb:=SV_split b (g:=min (pe a) (pe b)) (by omega) (by omega)
 have hp:(0:Int)<2^2926:=pow_pos 2926
 have g1:=Int.mul_le_mul_of_nonneg_right h1 (Int.le_of_lt hp)
 have g2:=Int.mul_le_mul_of_nonneg_right h2 (Int.le_of_lt hp)
 have hP:0≤pm a*2^(pe a-min (pe a) (pe b)).toNat:=Int.mul_nonneg (pm_range a).1 (Int.le_of_lt (pow_pos _))
 have hQ:0≤pm b*2^(pe b-min (pe a) (pe b)).toNat:=Int.mul_nonneg (pm_range b).1 (Int.le_of_lt (pow_pos _))
 rw [Int.add_mul,sa,sb,← Int.add_mul] at g1 g2
 have hm : -4000≤min (pe a) (pe b):=by omega
 unfold fsF
 generalize min (pe a) (pe b)=g at *
 generalize pm a*2^(pe a-g).toNat=P at *
 generalize pm b*2^(pe b-g).toNat=Q at *
 clear sa sb e pa pb ka kb
 by_cases hs:fs a=fs b
 · rw [if_pos hs]
   rw [← hs,sgI_add,sgI_pull] at g1 g2
   exact btw (by omega) hm hL hH g1 g2
 · rw [if_neg hs]
   have e2:fs b= !(fs a):=by revert hs;cases fs a<;>cases fs b<;>decide
   rw [e2,sgI_not] at g1 g2
   by_cases c1:P=Q
   · rw [if_pos c1]
     rw [c1,show sgI (fs a) Q+ -(sgI (fs a) Q)=0 by omega,Int.zero_mul] at g1 g2
     have z:SV 0=0:=by decide
     rw [z]
     refine ⟨⟨by unfold U;omega,by decide⟩, ?_, ?_⟩
     · rcases Int.lt_or_le 0 L with k | k
       · have:=Int.mul_pos k hp;omega
       · exact k
     · rcases Int.lt_or_le H 0 with k | k
       · have:=Int.mul_neg_of_neg_of_pos k hp;omega
       · exact k
   rw [if_neg c1]
   by_cases c2:P>Q
   · rw [if_pos c2]
     have e3:sgI (fs a) P+ -(sgI (fs a) Q)=sgI (fs a) (P-Q):=by unfold sgI;split<;>omega
     rw [e3,sgI_pull] at g1 g2
     exact btw (by omega) hm hL hH g1 g2
   · rw [if_neg c2,e2]
     have e3:sgI (fs a) P+ -(sgI (fs a) Q)=sgI (!(fs a)) (Q-P):=by rw [sgI_not];unfold sgI;split<;>omega
     rw [e3,sgI_pull] at g1 g2
     exact btw (by omega) hm hL hH g1 g2
theorem sgI_prod (s s':Bool) (x y:Int):sgI s x*sgI s' y=sgI (s !=s') (x*y):=by
 unfold sgI
 cases s<;>cases s'<;>simp [Int.neg_mul,Int.mul_neg]
theorem V_prod (a b:Int):V a*V b*2^1852=pm a*pm b*2^(pe a+pe b+4000).toNat:=by
 have pa:=(pe_range a).1
 have pb:=(pe_range b).1
 unfold V
 have e:(2:Int)^(pe a+pe b+4000).toNat=2^(pe a+1074).toNat*2^(pe b+1074).toNat*2^1852:=by
  rw [← Int.pow_add,← Int.pow_add]
  congr 1
  omega
 rw [e]
 generalize (2:Int)^(pe a+1074).toNat=x
 generalize (2:Int)^(pe b+1074).toNat=y
 generalize (2:Int)^1852=z
 grind
theorem mul_btw {a b L H:Int} (ha:Fin' a) (hb:Fin' b) (hL:Rp L) (hH:Rp H) (h1:L*2^1074≤SV a*SV b) (h2:SV a*SV b≤H*2^1074):Fin' (fmul a b)∧L≤SV (fmul a b)∧SV (fmul a b)≤H:=by
 have ka:=fin_fk ha.2
 have kb:=fin_fk hb.2
 have e:fmul a b=sgn (fs a !=fs b) (Rd (pm a*pm b) (pe a+pe b)):=by
  unfold fmul
  rw [if_neg (by omega),if_neg (by omega)]
 have pa:=(pe_range a).1
 have pb:=(pe_range b).1
 have hp:(0:Int)<2^1852:=pow_pos 1852
 have ek:(2:Int)^1074*2^1852=2^2926:=by rw [← Int.pow_add]
 have g1:=Int.mul_le_mul_of_nonneg_right h1 (Int.le_of_lt hp)
 have g2:=Int.mul_le_mul_of_nonneg_right h2 (Int.le_of_lt hp)
 rw [Int.mul_assoc,ek] at g1
 rw [Int.mul_assoc H,ek] at g2
 have ex:SV a*SV b*2^1852=sgI (fs a !=fs b) (pm a*pm b*2^(pe a+pe b+4000).toNat):=by
  unfold SV
  rw [sgI_prod,sgI_pull,V_prod]
 rw [ex] at g1 g2
 rw [e]
 exact btw (Int.mul_nonneg (pm_range a).1 (pm_range b).1) (by omega) hL hH g1 g2
theorem Rp_dy {M:Int} (h0:0≤M) (h1:M<9007199254740992) (j:Nat) (hj:j≤2045):Rp (M*2^j):=by
 rcases (show M=0∨0<M by omega) with rfl | h
 · refine ⟨0,by unfold U;omega,by decide, ?_⟩
   rw [Int.zero_mul]
   decide
 · obtain ⟨a,b,c,d⟩:=V_exact (M:=M) (l:=(j:Int)-1074) h h1 (by omega) (by omega)
   refine ⟨_,d,a, ?_⟩
   rw [c,show ((j:Int)-1074+1074).toNat=j by omega]
   have:=Int.mul_pos h (pow_pos j)
   unfold ab
   rw [if_neg (by omega)]
theorem cell_up {q A B c:Int} (hA:0<A) (hq:9007199254740992≤q) (h:B=2*A*c∨B<9007199254740992*A) (k:q*(2*A)<B):(2*q+1)*A≤B:=by
 rcases h with rfl | h
 · rw [Int.mul_comm q,Int.mul_lt_mul_left (show 0<2*A by omega)] at k
   have:=Int.mul_le_mul_of_nonneg_left (show q+1≤c by omega) (show 0≤2*A by omega)
   have e:2*A*(q+1)=(2*q+1)*A+A:=by grind
   omega
 · have:=Int.mul_le_mul_of_nonneg_right hq (show 0≤2*A by omega)
   omega
theorem cell_down {q A B c:Int} (hA:0<A) (hq:9007199254740992≤q) (h:B=2*A*c∨B<9007199254740992*A) (k:B<(q+1)*(2*A)):B≤(2*q+1)*A:=by
 rcases h with rfl | h
 · rw [Int.mul_comm (q+1),Int.mul_lt_mul_left (show 0<2*A by omega)] at k
   have:=Int.mul_le_mul_of_nonneg_left (show c≤q by omega) (show 0≤2*A by omega)
   have e:2*A*q+A=(2*q+1)*A:=by grind
   omega
 · have:=Int.mul_le_mul_of_nonneg_right (show 9007199254740992≤2*q+1 by omega) (Int.le_of_lt hA)
   omega
theorem grid {B':Int} {E:Int} (hE : -3999≤E):(∃ c,V B'*2^2926=2*2^(E+3999).toNat*c)∨V B'*2^2926<9007199254740992*2^(E+3999).toNat:=by
 have pr:=pm_range B'
 have er:=(pe_range B').1
 rw [V_scale]
 by_cases h:E≤pe B'
 · left
   refine ⟨pm B'*2^(pe B'-E).toNat, ?_⟩
   have e:(pe B'+4000).toNat=(E+3999).toNat+1+(pe B'-E).toNat:=by omega
   rw [e,Int.pow_add,Int.pow_succ]
   generalize (2:Int)^(E+3999).toNat=x
   generalize (2:Int)^(pe B'-E).toNat=y
   grind
 · right
   have h1:=pow_le_pow (a:=(pe B'+4000).toNat) (b:=(E+3999).toNat) (by omega)
   have h2:=Int.mul_le_mul_of_nonneg_left h1 pr.1
   have h3:=Int.mul_lt_mul_of_pos_right pr.2 (pow_pos (E+3999).toNat)
   omega
theorem qd_parts {m n:Int} (hm:0<m) (hm1:m<9007199254740992) (hn:0<n) (hn1:n<9007199254740992):0<n*2^(64-bl n).toNat∧4611686018427387904≤m*2^(63-bl m).toNat*18446744073709551616/(n*2^(64-bl n).toNat)∧0<bl m∧bl m≤53∧0<bl n∧bl n≤53:=by
 have b1:=bl_pos hm
 have b2:=bl_pos hn
 have c1:bl m≤53:=bl_le_of (n:=53) (by have:(2:Int)^53=9007199254740992:=by decide
                                       omega)
 have c2:bl n≤53:=bl_le_of (n:=53) (by have:(2:Int)^53=9007199254740992:=by decide
                                       omega)
 have d1:=bl_le hm
 have d2:=bl_lt n
 have p1:=pow_pos (63-bl m).toNat
 have p2:=pow_pos (64-bl n).toNat
 have D0:0<n*2^(64-bl n).toNat:=Int.mul_pos hn p2
 refine ⟨D0, ?_,b1,c1,b2,c2⟩
 have e1:=Int.mul_le_mul_of_nonneg_right d1 (Int.le_of_lt p1)
 rw [← Int.pow_add,show (bl m-1).toNat+(63-bl m).toNat=62 by omega] at e1
 have e2:=Int.mul_lt_mul_of_pos_right d2 p2
 rw [← Int.pow_add,show (bl n).toNat+(64-bl n).toNat=64 by omega] at e2
 have k1:(2:Int)^62=4611686018427387904:=by decide
 have k2:(2:Int)^64=18446744073709551616:=by decide
 rw [k1] at e1
 rw [k2] at e2
 rw [Int.le_ediv_iff_mul_le D0]
 omega
theorem qd_main {m e n f:Int} (hm:0<m) (hm1:m<9007199254740992) (he : -1074≤e) (he1:e≤972) (hn:0<n) (hn1:n<9007199254740992) (hf : -1074≤f) (hf1:f≤972) :
 (∀ H,Rp H→m*2^(e+1074).toNat*2^1074≤H*(n*2^(f+1074).toNat)→V (qd m e n f)≤H∧qd m e n f<INF) ∧
 (∀ L,Rp L→L*(n*2^(f+1074).toNat)≤m*2^(e+1074).toNat*2^1074→L≤V (qd m e n f)):=by
 obtain ⟨D0,q0,b1,b2,b3,b4⟩:=qd_parts hm hm1 hn hn1
 have conv : ∀ X:Int,(n*2^(64-bl n).toNat*(X*2^2926)=X*(n*2^(f+1074).toNat)*2^(64-bl n+2926-f-1074).toNat):=by
  intro X
  have e1:(2:Int)^(64-bl n).toNat*2^2926=2^(f+1074).toNat*2^(64-bl n+2926-f-1074).toNat:=by
   rw [← Int.pow_add,← Int.pow_add]
   congr 1
   omega
  have e2:n*2^(64-bl n).toNat*(X*2^2926)=n*X*(2^(64-bl n).toNat*2^2926):=by
   generalize (2:Int)^2926=y
   generalize (2:Int)^(64-bl n).toNat=z
   grind
  rw [e2,e1]
  generalize (2:Int)^(f+1074).toNat=y
  generalize (2:Int)^(64-bl n+2926-f-1074).toNat=z
  grind
 have conv2:m*2^(63-bl m).toNat*18446744073709551616*(2*2^(e-f+bl m-bl n-63+3999).toNat)=m*2^(e+1074).toNat*2^1074*2^(64-bl n+2926-f-1074).toNat:=by
  have k2:(18446744073709551616:Int)=2^64:=by decide
  have e1:(2:Int)^(63-bl m).toNat*2^64*(2*2^(e-f+bl m-bl n-63+3999).toNat)=2^(e+1074).toNat*2^1074*2^(64-bl n+2926-f-1074).toNat:=by
   rw [show (2:Int)*2^(e-f+bl m-bl n-63+3999).toNat=2^((e-f+bl m-bl n-63+3999).toNat+1) by rw [Int.pow_succ,Int.mul_comm],← Int.pow_add,← Int.pow_add,← Int.pow_add,← Int.pow_add]
   congr 1
   omega
  rw [k2]
  generalize (2:Int)^(63-bl m).toNat=x1 at *
  generalize (2:Int)^64=x2 at *
  generalize (2:Int)^(e-f+bl m-bl n-63+3999).toNat=x3 at *
  generalize (2:Int)^(e+1074).toNat=x4 at *
  generalize (2:Int)^1074=x5 at *
  generalize (2:Int)^(64-bl n+2926-f-1074).toNat=x6 at *
  have e2:m*x1*x2*(2*x3)=m*(x1*x2*(2*x3)):=by grind
  rw [e2,e1]
  grind
 have pf:=pow_pos (64-bl n+2926-f-1074).toNat
 have hE : -3999≤e-f+bl m-bl n-63:=by omega
 have eA:(2:Int)^(e-f+bl m-bl n-63+4000).toNat=2*2^(e-f+bl m-bl n-63+3999).toNat:=by
  rw [show (e-f+bl m-bl n-63+4000).toNat=(e-f+bl m-bl n-63+3999).toNat+1 by omega,Int.pow_succ,Int.mul_comm]
 have eB:(2:Int)^(e-f+bl m-bl n-64+4000).toNat=2^(e-f+bl m-bl n-63+3999).toNat:=by congr 1;omega
 have A0:=pow_pos (e-f+bl m-bl n-63+3999).toNat
 have dm:=Int.mul_ediv_add_emod (m*2^(63-bl m).toNat*18446744073709551616) (n*2^(64-bl n).toNat)
 have r0:=Int.emod_nonneg (m*2^(63-bl m).toNat*18446744073709551616) (show n*2^(64-bl n).toNat≠0 by omega)
 have r1:=Int.emod_lt_of_pos (m*2^(63-bl m).toNat*18446744073709551616) D0
 unfold qd
 generalize hN:m*2^(63-bl m).toNat*18446744073709551616=N at *
 generalize hD:n*2^(64-bl n).toNat=D at *
 generalize hq:N/D=q at *
 generalize hr:N%D=r at *
 have gr:=fun B'=>grid (B':=B') hE
 generalize hAA:(2:Int)^(e-f+bl m-bl n-63+3999).toNat=A at *
 have pos : ∀ {X:Int},Rp X→0<X→ ∃ B',V B'=X:=fun {X} ⟨B',_,_,h3⟩ h0=>⟨B',by rw [h3];unfold ab;rw [if_neg (by omega)]⟩
 constructor
 · intro H hH h
   have h1:N*(2*A)≤D*(H*2^2926):=by
    rw [conv H,conv2]
    exact Int.mul_le_mul_of_nonneg_right h (Int.le_of_lt pf)
   by_cases hr0:r=0
   · rw [if_pos hr0]
     refine Rd_le (by omega) (by omega) hH ?_
     rw [eA]
     have e1:N=D*q:=by omega
     rw [e1,Int.mul_assoc] at h1
     exact Int.le_of_mul_le_mul_left h1 D0
   · rw [if_neg hr0]
     refine Rd_le (by omega) (by omega) hH ?_
     rw [eB]
     have h2:q*(2*A)<H*2^2926:=by
      refine Int.lt_of_mul_lt_mul_left (a:=D) ?_ (Int.le_of_lt D0)
      have:D*q*(2*A)<N*(2*A):=Int.mul_lt_mul_of_pos_right (by omega) (by omega)
      rw [Int.mul_assoc] at this
      omega
     have H0:0<H:=by
      rcases Int.lt_or_le 0 H with k | k
      · exact k
      · have a1:=Int.mul_nonpos_of_nonpos_of_nonneg k (Int.le_of_lt (pow_pos 2926))
        have a2:=Int.mul_nonneg (show 0≤q by omega) (show 0≤2*A by omega)
        omega
     obtain ⟨B',hB⟩:=pos hH H0
     have g:=gr B'
     rw [hB] at g
     rcases g with ⟨c,g⟩ | g
     · exact cell_up A0 (by omega) (.inl g) h2
     · exact cell_up (c:=0) A0 (by omega) (.inr g) h2
 · intro L hL h
   rcases Int.lt_or_le 0 L with k | k
   case inr =>
    have:=V_nonneg (if r=0 then Rd q (e-f+bl m-bl n-63) else Rd (2*q+1) (e-f+bl m-bl n-64))
    omega
   have h1:D*(L*2^2926)≤N*(2*A):=by
    rw [conv L,conv2]
    exact Int.mul_le_mul_of_nonneg_right h (Int.le_of_lt pf)
   by_cases hr0:r=0
   · rw [if_pos hr0]
     refine Rd_ge (by omega) (by omega) hL ?_
     rw [eA]
     have e1:N=D*q:=by omega
     rw [e1,Int.mul_assoc] at h1
     exact Int.le_of_mul_le_mul_left h1 D0
   · rw [if_neg hr0]
     refine Rd_ge (by omega) (by omega) hL ?_
     rw [eB]
     have h2:L*2^2926<(q+1)*(2*A):=by
      refine Int.lt_of_mul_lt_mul_left (a:=D) ?_ (Int.le_of_lt D0)
      have:N*(2*A)<D*(q+1)*(2*A):=Int.mul_lt_mul_of_pos_right (by rw [Int.mul_add,Int.mul_one];omega) (by omega)
      rw [Int.mul_assoc] at this
      omega
     obtain ⟨B',hB⟩:=pos hL k
     have g:=gr B'
     rw [hB] at g
     rcases g with ⟨c,g⟩ | g
     · exact cell_down A0 (by omega) (.inl g) h2
     · exact cell_down (c:=0) A0 (by omega) (.inr g) h2
theorem div_btw {a b L H:Int} (ha:Fin' a) (hb:Fin' b) (sb:fs b=false) (pb:0<V b) (hL:Rp L) (hH:Rp H) (h1:L*V b≤SV a*2^1074) (h2:SV a*2^1074≤H*V b):Fin' (fdiv a b)∧L≤SV (fdiv a b)∧SV (fdiv a b)≤H:=by
 have ka:=fin_fk ha.2
 have kb:=fin_fk hb.2
 have nb:0<pm b:=by
  have:=(pm_range b).1
  rcases (show pm b=0∨0<pm b by omega) with k | k
  · have:V b=0:=by unfold V;rw [k,Int.zero_mul]
    omega
  · exact k
 have k0:fk b≠0:=fun k=>by have:=((fk_eq b).2.2.2.1.1 k).2;omega
 by_cases z:fk a=0
 · have e:fdiv a b=sgn (fs a !=fs b) 0:=by unfold fdiv;rw [if_neg (by omega),if_neg (by omega),if_pos (by omega)]
   have za:V a=0:=by unfold V;rw [((fk_eq a).2.2.2.1.1 z).2,Int.zero_mul]
   have zs:SV a=0:=by unfold SV;rw [za];cases fs a<;>rfl
   rw [zs,Int.zero_mul] at h1 h2
   have s:=sgn_mw (w:=0) (by omega) (by decide) (fs a !=fs b)
   rw [e,SV_sgn (by omega) (by decide),V_zero0]
   have zz:sgI (fs a !=fs b) (0:Int)=0:=by cases (fs a !=fs b)<;>rfl
   rw [zz]
   refine ⟨⟨s.2.2.1,s.2.2.2.2 (by decide)⟩, ?_, ?_⟩
   · rcases Int.lt_or_le 0 L with k | k
     · have:=Int.mul_pos k pb;omega
     · exact k
   · rcases Int.lt_or_le H 0 with k | k
     · have:=Int.mul_neg_of_neg_of_pos k pb;omega
     · exact k
 · have e:fdiv a b=sgn (fs a) (qd (pm a) (pe a) (pm b) (pe b)):=by
    unfold fdiv
    rw [if_neg (by omega),if_neg (by omega),if_neg (by omega),sb,bne_false']
   have na:0<pm a:=by
    have:=(pm_range a).1
    rcases (show pm a=0∨0<pm a by omega) with k | k
    · exact absurd ((fk_eq a).2.2.2.1.2 ⟨ha.2,k⟩) z
    · exact k
   have Q:=qd_main na (pm_range a).2 (pe_range a).1 (pe_range a).2.1 nb (pm_range b).2 (pe_range b).1 (pe_range b).2.1
   have r:=qd_range (pm a) (pe a) (pm b) (pe b)
   have s:=sgn_mw r.1 r.2 (fs a)
   rw [e,SV_sgn r.1 r.2]
   unfold SV at h1 h2
   rw [sgI_pull] at h1 h2
   cases hs:fs a
   · rw [hs] at h1 h2 s
     have A:=Q.1 H hH h2
     have B:=Q.2 L hL h1
     exact ⟨⟨s.2.2.1,s.2.2.2.2 A.2⟩,B,A.1⟩
   · rw [hs] at h1 h2 s
     have h1:L*V b≤ -(V a*2^1074):=h1
     have h2 : -(V a*2^1074)≤H*V b:=h2
     have A:=Q.1 (-L) (Rp_neg hL) (by rw [Int.neg_mul];show V a*2^1074≤ -(L*V b);omega)
     have B:=Q.2 (-H) (Rp_neg hH) (by rw [Int.neg_mul];show -(H*V b)≤V a*2^1074;omega)
     refine ⟨⟨s.2.2.1,s.2.2.2.2 A.2⟩, ?_, ?_⟩
     · show L≤ -(V (qd (pm a) (pe a) (pm b) (pe b)));omega
     · show -(V (qd (pm a) (pe a) (pm b) (pe b)))≤H;omega

def O:Rat:=((2^1074:Int):Rat)
theorem O_pos:0<O:=Rat.intCast_pos.2 (pow_pos 1074)
def oi:Rat:=O⁻¹
theorem oi_pos:0<oi:=Rat.inv_pos.2 O_pos
theorem O_oi:O*oi=1:=Rat.mul_inv_cancel O (by have:=O_pos;intro h;rw [h] at this;exact absurd this (by decide))
def dv (b:Int):Rat:=(SV b:Rat)*oi
def Rep (q:Rat):Prop:= ∃ S:Int,Rp S∧q=(S:Rat)*oi
theorem le_oi {a b:Int} :(a:Rat)*oi≤(b:Rat)*oi↔a≤b:=⟨fun h=>Rat.intCast_le_intCast.1 (Rat.le_of_mul_le_mul_right h oi_pos),fun h=>Rat.mul_le_mul_of_nonneg_right (Rat.intCast_le_intCast.2 h) (Rat.le_of_lt oi_pos)⟩
theorem addR {a b:Int} {l h:Rat} (ha:Fin' a) (hb:Fin' b) (hl:Rep l) (hh:Rep h) (h1:l≤dv a+dv b) (h2:dv a+dv b≤h):Fin' (fadd a b)∧l≤dv (fadd a b)∧dv (fadd a b)≤h:=by
 obtain ⟨L,rL,rfl⟩:=hl
 obtain ⟨H,rH,rfl⟩:=hh
 unfold dv at h1 h2 ⊢
 rw [← Rat.add_mul,← Rat.intCast_add,le_oi] at h1 h2
 have:=add_btw ha hb rL rH h1 h2
 exact ⟨this.1,le_oi.2 this.2.1,le_oi.2 this.2.2⟩
theorem dv_O (S:Int):(S:Rat)*oi*O=S:=by rw [Rat.mul_assoc,Rat.mul_comm oi,O_oi,Rat.mul_one]
theorem mulR {a b:Int} {l h:Rat} (ha:Fin' a) (hb:Fin' b) (hl:Rep l) (hh:Rep h) (h1:l≤dv a*dv b) (h2:dv a*dv b≤h):Fin' (fmul a b)∧l≤dv (fmul a b)∧dv (fmul a b)≤h:=by
 obtain ⟨L,rL,rfl⟩:=hl
 obtain ⟨H,rH,rfl⟩:=hh
 have e:dv a*dv b*(O*O)=((SV a*SV b:Int):Rat):=by
  rw [Rat.intCast_mul,show dv a*dv b*(O*O)=(dv a*O)*(dv b*O) by grind]
  unfold dv
  rw [dv_O,dv_O]
 have e2 : ∀ S:Int,(S:Rat)*oi*(O*O)=((S*2^1074:Int):Rat):=fun S=>by
  rw [← Rat.mul_assoc,dv_O,Rat.intCast_mul]
  rfl
 have p:(0:Rat)≤O*O:=Rat.mul_nonneg (Rat.le_of_lt O_pos) (Rat.le_of_lt O_pos)
 have k1:=Rat.mul_le_mul_of_nonneg_right h1 p
 have k2:=Rat.mul_le_mul_of_nonneg_right h2 p
 rw [e,e2,Rat.intCast_le_intCast] at k1 k2
 have:=mul_btw ha hb rL rH k1 k2
 exact ⟨this.1,le_oi.2 this.2.1,le_oi.2 this.2.2⟩
theorem divR {a b:Int} {l h:Rat} (ha:Fin' a) (hb:Fin' b) (pb:0<dv b) (hl:Rep l) (hh:Rep h) (h1:l*dv b≤dv a) (h2:dv a≤h*dv b):Fin' (fdiv a b)∧l≤dv (fdiv a b)∧dv (fdiv a b)≤h:=by
 obtain ⟨L,rL,rfl⟩:=hl
 obtain ⟨H,rH,rfl⟩:=hh
 have sb:0<SV b:=by
  rcases Int.lt_or_le 0 (SV b) with k | k
  · exact k
  · have:=le_oi.2 k
    rw [Rat.intCast_zero,Rat.zero_mul] at this
    exact absurd pb (Rat.not_lt.2 this)
 have vb:=V_nonneg b
 have fb:fs b=false:=by
  unfold SV at sb
  cases h:fs b
  · rfl
  · rw [h] at sb
    have:0 < -(V b):=sb
    omega
 have eV:SV b=V b:=by unfold SV;rw [fb];rfl
 have p:(0:Rat)≤O*O:=Rat.mul_nonneg (Rat.le_of_lt O_pos) (Rat.le_of_lt O_pos)
 have e : ∀ S:Int,(S:Rat)*oi*dv b*(O*O)=((S*V b:Int):Rat):=fun S=>by
  rw [Rat.intCast_mul,show (S:Rat)*oi*dv b*(O*O)=((S:Rat)*oi*O)*(dv b*O) by grind]
  unfold dv
  rw [dv_O,dv_O,eV]
 have e2:dv a*(O*O)=((SV a*2^1074:Int):Rat):=by
  unfold dv
  rw [← Rat.mul_assoc,dv_O,Rat.intCast_mul]
  rfl
 have k1:=Rat.mul_le_mul_of_nonneg_right h1 p
 have k2:=Rat.mul_le_mul_of_nonneg_right h2 p
 rw [e,e2,Rat.intCast_le_intCast] at k1 k2
 have:=div_btw ha hb fb (by omega) rL rH k1 k2
 exact ⟨this.1,le_oi.2 this.2.1,le_oi.2 this.2.2⟩
theorem Rep_q {M:Int} {d:Nat} (h0 : -9007199254740992<M) (h1:M<9007199254740992) (hd:d≤1000):Rep ((M:Rat)/((2^d:Int):Rat)):=by
 have ho:O=((2^d:Int):Rat)*((2^(1074-d):Int):Rat):=by
  unfold O
  rw [← Rat.intCast_mul,← Int.pow_add,show d+(1074-d)=1074 by omega]
 have pd:(0:Rat)<((2^d:Int):Rat):=Rat.intCast_pos.2 (pow_pos d)
 refine ⟨M*2^(1074-d), ?_, ?_⟩
 · rcases Int.lt_or_le M 0 with k | k
   · have:=Rp_neg (Rp_dy (M:= -M) (by omega) (by omega) (1074-d) (by omega))
     rwa [Int.neg_mul,Int.neg_neg] at this
   · exact Rp_dy k h1 _ (by omega)
 · rw [Rat.intCast_mul,Rat.div_def]
   have x:=O_oi
   rw [ho] at x
   have y:((2^d:Int):Rat)⁻¹ =((2^(1074-d):Int):Rat)*oi:=Rat.inv_eq_of_mul_eq_one (by rw [← Rat.mul_assoc];exact x)
   rw [y,Rat.mul_assoc]
theorem mul_abs {a b A B:Rat} (a1 : -A≤a) (a2:a≤A) (b1 : -B≤b) (b2:b≤B) : -(A*B)≤a*b∧a*b≤A*B:=by
 have h1:=Rat.mul_nonneg (show 0≤A-a by grind) (show 0≤B+b by grind)
 have h2:=Rat.mul_nonneg (show 0≤A+a by grind) (show 0≤B-b by grind)
 have h3:=Rat.mul_nonneg (show 0≤A-a by grind) (show 0≤B-b by grind)
 have h4:=Rat.mul_nonneg (show 0≤A+a by grind) (show 0≤B+b by grind)
 constructor<;>grind
theorem grid_ex {y:Rat} (h1 : -2048≤y) (h2:y≤2048) : ∃ l h,Rep l∧Rep h∧l≤y∧y≤h∧h≤y+1/1024∧y-1/1024≤l:=by
 have f1:=Rat.floor_le (y*1024)
 have f2:=Rat.lt_floor_add_one (y*1024)
 generalize (y*1024).floor=q at *
 rw [Rat.intCast_add,Rat.intCast_one] at f2
 have b1 : -2097153<q:=by
  rcases Int.lt_or_le (-2097153) q with k | k
  · exact k
  · have:=Rat.intCast_le_intCast.2 k
    rw [show ((-2097153:Int):Rat)= -2097153 from rfl] at this
    grind
 have b2:q<2097153:=by
  rcases Int.lt_or_le q 2097153 with k | k
  · exact k
  · have:=Rat.intCast_le_intCast.2 k
    rw [show ((2097153:Int):Rat)=2097153 from rfl] at this
    grind
 have e:((2^10:Int):Rat)=1024:=by decide +kernel
 have r1:=Rep_q (M:=q) (d:=10) (by omega) (by omega) (by omega)
 have r2:=Rep_q (M:=q+1) (d:=10) (by omega) (by omega) (by omega)
 rw [e] at r1 r2
 rw [Rat.intCast_add,Rat.intCast_one] at r2
 refine ⟨_,_,r1,r2, ?_, ?_, ?_, ?_⟩<;>grind
theorem mulG {a b:Int} (ha:Fin' a) (hb:Fin' b) (h1 : -2048≤dv a*dv b) (h2:dv a*dv b≤2048):Fin' (fmul a b)∧dv a*dv b-1/1024≤dv (fmul a b)∧dv (fmul a b)≤dv a*dv b+1/1024:=by
 obtain ⟨l,h,r1,r2,e1,e2,e3,e4⟩:=grid_ex h1 h2
 have:=mulR ha hb r1 r2 e1 e2
 exact ⟨this.1,by grind,by grind⟩
theorem fl_Fin {b:Int} (h:Fin' b):Fin' (fl b)∧dv (fl b)= -(dv b):=by
 have hk:=fin_fk h.2
 have m:=fl_parts h.1
 have m2:=fl_more h.1
 rw [fl_some hk.1]
 refine ⟨⟨by have:=fl_U b;rwa [fl_some hk.1] at this,by rw [m.1];exact h.2⟩, ?_⟩
 have:SV ((b+9223372036854775808)%18446744073709551616)= -(SV b):=by
  unfold SV V
  rw [m.2.2,m2.2.1,m2.2.2,sgI_not]
 unfold dv
 rw [this,Rat.intCast_neg]
 grind
theorem subR {a b:Int} {l h:Rat} (ha:Fin' a) (hb:Fin' b) (hl:Rep l) (hh:Rep h) (h1:l≤dv a-dv b) (h2:dv a-dv b≤h):Fin' (fsub a b)∧l≤dv (fsub a b)∧dv (fsub a b)≤h:=by
 have f:=fl_Fin hb
 exact addR ha f.1 hl hh (by rw [f.2];grind) (by rw [f.2];grind)
theorem subG {a b:Int} (ha:Fin' a) (hb:Fin' b) (h1 : -2048≤dv a-dv b) (h2:dv a-dv b≤2048):Fin' (fsub a b)∧dv a-dv b-1/1024≤dv (fsub a b)∧dv (fsub a b)≤dv a-dv b+1/1024:=by
 obtain ⟨l,h,r1,r2,e1,e2,e3,e4⟩:=grid_ex h1 h2
 have:=subR ha hb r1 r2 e1 e2
 exact ⟨this.1,by grind,by grind⟩
theorem fint_Fin {n:Int} (h0 : -9007199254740992<n) (h1:n<9007199254740992):Fin' (fint n)∧dv (fint n)=(n:Rat):=by
 have hr:Rp (n*2^1074):=by
  rcases Int.lt_or_le n 0 with k | k
  · have:=Rp_neg (Rp_dy (M:= -n) (by omega) (by omega) 1074 (by omega))
    rwa [Int.neg_mul,Int.neg_neg] at this
  · exact Rp_dy k h1 _ (by omega)
 have e:sgI (decide (n<0)) ((if n<0 then -n else n)*2^((0:Int)+4000).toNat)=n*2^1074*2^2926:=by
  rw [Int.mul_assoc,← Int.pow_add,← sgI_pull,show ((0:Int)+4000).toNat=1074+2926 from rfl]
  congr 1
  unfold sgI
  by_cases k:n<0
  · rw [if_pos k,if_pos (decide_eq_true k)];omega
  · rw [if_neg k,if_neg (by rw [decide_eq_false k];decide)]
 have:=btw (neg:=decide (n<0)) (m:=if n<0 then -n else n) (e:=0) (by split<;>omega) (by omega) hr hr (by rw [e];omega) (by rw [e];omega)
 refine ⟨this.1, ?_⟩
 have es:SV (fint n)=n*2^1074:=by unfold fint;omega
 unfold dv
 rw [es,Rat.intCast_mul]
 show (n:Rat)*O*oi=n
 rw [Rat.mul_assoc,O_oi,Rat.mul_one]
theorem less_dv {a b:Int} (ha:Fin' a) (hb:Fin' b):less a b=true↔dv a<dv b:=by
 unfold less
 have ka:=fin_fk ha.2
 have kb:=fin_fk hb.2
 rw [decide_eq_true_iff]
 have k:=(key_iff ha.1 hb.1).1
 have e:dv a<dv b↔SV a<SV b:=by
  have:=le_oi (a:=SV b) (b:=SV a)
  unfold dv
  rw [← Rat.not_le,this]
  omega
 rw [e,k]
 exact ⟨fun h=>h.2.2,fun h=>⟨ka.1,kb.1,h⟩⟩
theorem dv_sign {b:Int} :(0<dv b→fs b=false∧0<V b)∧(dv b<0→fs b=true∧0<V b)∧(dv b=0→V b=0):=by
 have v:=V_nonneg b
 have p:=oi_pos
 have z:dv b=(SV b:Rat)*oi:=rfl
 have l0 : ∀ S:Int,0<(S:Rat)*oi→0<S:=fun S h=>by
  rcases Int.lt_or_le 0 S with k | k
  · exact k
  · have:=le_oi.2 k
    rw [Rat.intCast_zero,Rat.zero_mul] at this
    exact absurd h (Rat.not_lt.2 this)
 have l1 : ∀ S:Int,(S:Rat)*oi<0→S<0:=fun S h=>by
  rcases Int.lt_or_le S 0 with k | k
  · exact k
  · have:=le_oi.2 k
    rw [Rat.intCast_zero,Rat.zero_mul] at this
    exact absurd h (Rat.not_lt.2 this)
 refine ⟨fun h=> ?_,fun h=> ?_,fun h=> ?_⟩
 · rw [z] at h
   have:=l0 _ h
   unfold SV at this
   cases hs:fs b
   · rw [hs] at this;exact ⟨rfl,this⟩
   · rw [hs] at this
     have:0 < -(V b):=this
     omega
 · rw [z] at h
   have:=l1 _ h
   unfold SV at this
   cases hs:fs b
   · rw [hs] at this
     have:V b<0:=this
     omega
   · rw [hs] at this
     have : -(V b)<0:=this
     exact ⟨rfl,by omega⟩
 · rw [z] at h
   rcases Rat.mul_eq_zero.1 h with k | k
   · have k:=Rat.intCast_eq_zero_iff.1 k
     unfold SV at k
     cases hs:fs b
     · rw [hs] at k;exact k
     · rw [hs] at k
       have : -(V b)=0:=k
       omega
   · rw [k] at p;exact absurd p (by decide)
theorem near_ok {b:Int} (hb:Fin' b) (h1 : -2048≤dv b) (h2:dv b≤2048):(near b).2=true∧((near b).1:Rat)-dv b≤1/2∧dv b-((near b).1:Rat)≤1/2:=by
 have pr:=pm_range b
 have per:=pe_range b
 have vle:V b≤2048*2^1074:=by
  have v:=V_nonneg b
  have e : ∀ q:Int,((q*2^1074:Int):Rat)*oi=q:=fun q=>by
   rw [Rat.intCast_mul]
   show (q:Rat)*O*oi=q
   rw [Rat.mul_assoc,O_oi,Rat.mul_one]
  have a1:SV b≤2048*2^1074:=le_oi.1 (by rw [e];exact h2)
  have a2 : -2048*2^1074≤SV b:=le_oi.1 (by rw [e];exact h1)
  unfold SV at a1 a2
  cases hs:fs b
  · rw [hs] at a1;exact a1
  · rw [hs] at a2
    have a2 : -2048*2^1074≤ -(V b):=a2
    rw [Int.neg_mul] at a2
    omega
 have hc:bl (pm b)+pe b≤62:=by
  rcases (show pm b=0∨0<pm b by omega) with k | k
  · rw [k,bl_zero]
    have:pe b= -1074:=by omega
    omega
  · have l1:=bl_le k
    have b1:=bl_pos k
    have l2:=Int.mul_le_mul_of_nonneg_right l1 (Int.le_of_lt (pow_pos (pe b+1074).toNat))
    rw [← Int.pow_add] at l2
    have e:(2048:Int)*2^1074=2^1085:=by
     rw [show (2048:Int)=2^11 by decide,← Int.pow_add]
    have l3:(2:Int)^((bl (pm b)-1).toNat+(pe b+1074).toNat)<2^1086:=by
     have l4:(2:Int)^1086=2*2^1085:=by rw [show (1086:Nat)=1085+1 from rfl,Int.pow_succ,Int.mul_comm]
     have l5:=pow_pos 1085
     unfold V at vle
     rw [e] at vle
     omega
    have:=pow_lt_of l3
    omega
 have en:near b=(if fs b then -(ru (pm b) (pe b) 0) else ru (pm b) (pe b) 0,true):=by
  unfold near
  rw [if_neg (by have:=hb.2;omega)]
 have key:2*(ru (pm b) (pe b) 0*2^1074-V b)≤2^1074∧2*(V b-ru (pm b) (pe b) 0*2^1074)≤2^1074:=by
  unfold ru V
  rcases Int.lt_or_le (pe b) 0 with k | k
  · obtain ⟨d,hd⟩ : ∃ d:Nat,pe b= -(d:Int):=⟨(-pe b).toNat,by omega⟩
    rw [show (0-pe b).toNat=d by omega,show (pe b-0).toNat=0 by omega,Int.pow_zero,Int.mul_one,show (pe b+1074).toNat=1074-d by omega]
    have n:=rnd_near (pm b) d
    have e:(2:Int)^1074=2^d*2^(1074-d):=by rw [← Int.pow_add];congr 1;omega
    have p:=pow_pos (1074-d)
    have n1:=Int.mul_le_mul_of_nonneg_right n.1 (Int.le_of_lt p)
    have n2:=Int.mul_le_mul_of_nonneg_right n.2 (Int.le_of_lt p)
    rw [e]
    generalize rnd (pm b) d=x at *
    generalize (2:Int)^d=y at *
    generalize (2:Int)^(1074-d)=z at *
    clear e
    constructor
    · have:2*(x*(y*z)-pm b*z)=2*(x*y-pm b)*z:=by grind
      omega
    · have:2*(pm b*z-x*(y*z))=2*(pm b-x*y)*z:=by grind
      omega
  · rw [show (0-pe b).toNat=0 by omega,rnd_zero,show (pe b-0).toNat=(pe b).toNat by omega,Int.mul_assoc,← Int.pow_add,show (pe b).toNat+1074=(pe b+1074).toNat by omega]
    have p:=pow_pos 1074
    omega
 rw [en]
 refine ⟨rfl, ?_⟩
 have fin : ∀ k:Int,2*(k*2^1074-SV b)≤2^1074→2*(SV b-k*2^1074)≤2^1074→(k:Rat)-dv b≤1/2∧dv b-(k:Rat)≤1/2:=by
  intro k a1 a2
  have c1:=le_oi.2 a1
  have c2:=le_oi.2 a2
  have eO:((2^1074:Int):Rat)=O:=rfl
  rw [Rat.intCast_mul,Rat.intCast_sub,Rat.intCast_mul,eO] at c1
  rw [Rat.intCast_mul,Rat.intCast_sub,Rat.intCast_mul,eO] at c2
  have x:=O_oi
  rw [x,show ((2:Int):Rat)=2 from rfl] at c1 c2
  have d1:(2:Rat)*((k:Rat)*O-(SV b:Rat))*oi=2*((k:Rat)*(O*oi)-(SV b:Rat)*oi):=by grind
  have d2:(2:Rat)*((SV b:Rat)-(k:Rat)*O)*oi=2*((SV b:Rat)*oi-(k:Rat)*(O*oi)):=by grind
  rw [d1,x] at c1
  rw [d2,x] at c2
  unfold dv
  constructor<;>grind
 unfold SV at fin
 cases hs:fs b
 · rw [hs] at fin
   exact fin _ key.1 key.2
 · rw [hs] at fin
   refine fin _ ?_ ?_
   · show 2*(-(ru (pm b) (pe b) 0)*2^1074 - -(V b))≤2^1074
     rw [Int.neg_mul];omega
   · show 2*(-(V b) - -(ru (pm b) (pe b) 0)*2^1074)≤2^1074
     rw [Int.neg_mul];omega

theorem c_fin:Fin' 4609176140021203710∧Fin' 4604418534311723008∧Fin' 4461442080421002358∧Fin' 4607182418800017408:=by unfold Fin' U;decide
theorem c_perln2:(14426:Rat)/10000≤dv 4609176140021203710∧dv 4609176140021203710≤14427/10000:=by decide +kernel
theorem c_ln2:(11:Rat)/16≤dv 4604418534311723008∧dv 4604418534311723008≤7/10:=by decide +kernel
theorem c_low:0≤dv 4461442080421002358∧dv 4461442080421002358≤1/1048576:=by decide +kernel
theorem c_both : -(1/1073741824:Rat)≤1-dv 4609176140021203710*dv 4604418534311723008∧1-dv 4609176140021203710*dv 4604418534311723008≤1/1073741824:=by decide +kernel
theorem c_one:dv 4607182418800017408=1:=by decide +kernel
theorem er_ok {x:Int} (hx:Fin' x) (h1 : -746≤dv x) (h2:dv x≤710):Fin' (er x)∧ -(3/8)≤dv (er x)∧dv (er x)≤3/8:=by
 obtain ⟨f1,f2,f3,f4⟩:=c_fin
 obtain ⟨q1,q2⟩:=c_perln2
 obtain ⟨p1,p2⟩:=c_ln2
 obtain ⟨l1,l2⟩:=c_low
 obtain ⟨b1,b2⟩:=c_both
 unfold er ek
 have y:=mul_abs (a:=dv x) (A:=746) (b:=dv 4609176140021203710) (B:=14427/10000) (by grind) (by grind) (by grind) q2
 obtain ⟨m1,m2,m3⟩:=mulG hx f1 (by grind) (by grind)
 obtain ⟨n0,n1,n2⟩:=near_ok m1 (by grind) (by grind)
 generalize (near (fmul x 4609176140021203710)).1=k at *
 generalize dv (fmul x 4609176140021203710)=M at *
 have kb : -1100≤(k:Rat)∧(k:Rat)≤1100:=by constructor<;>grind
 have kI : -1101<k∧k<1101:=by
  constructor
  · rcases Int.lt_or_le (-1101) k with c | c
    · exact c
    · have:=Rat.intCast_le_intCast.2 c
      rw [show ((-1101:Int):Rat)= -1101 from rfl] at this
      grind
  · rcases Int.lt_or_le k 1101 with c | c
    · exact c
    · have:=Rat.intCast_le_intCast.2 c
      rw [show ((1101:Int):Rat)=1101 from rfl] at this
      grind
 obtain ⟨g1,g2⟩:=fint_Fin (n:=k) (by omega) (by omega)
 have w1:=mul_abs (a:=(k:Rat)) (A:=1100) (b:=dv 4604418534311723008) (B:=7/10) kb.1 kb.2 (by grind) p2
 have w2:=mul_abs (a:=(k:Rat)) (A:=1100) (b:=dv 4461442080421002358) (B:=1/1048576) kb.1 kb.2 (by grind) l2
 have w3:=mul_abs (a:=(k:Rat)) (A:=1100) (b:=1-dv 4609176140021203710*dv 4604418534311723008) (B:=1/1073741824) kb.1 kb.2 b1 b2
 have A1:=mulG g1 f2 (by rw [g2];grind) (by rw [g2];grind)
 have A3:=mulG g1 f3 (by rw [g2];grind) (by rw [g2];grind)
 rw [g2] at A1 A3
 obtain ⟨a0,a1,a2⟩:=A1
 obtain ⟨c0,c1,c2⟩:=A3
 generalize hA1:dv (fmul (fint k) 4604418534311723008)=A at *
 generalize hA3:dv (fmul (fint k) 4461442080421002358)=C at *
 have D : -(3480/10000)≤dv x-(k:Rat)*dv 4604418534311723008∧dv x-(k:Rat)*dv 4604418534311723008≤3480/10000:=by
  have e:dv 4609176140021203710*(dv x-(k:Rat)*dv 4604418534311723008)=(dv x*dv 4609176140021203710-(k:Rat))+(k:Rat)*(1-dv 4609176140021203710*dv 4604418534311723008):=by grind
  have e1 : -(502/1000)≤dv 4609176140021203710*(dv x-(k:Rat)*dv 4604418534311723008):=by rw [e];grind
  have e2:dv 4609176140021203710*(dv x-(k:Rat)*dv 4604418534311723008)≤502/1000:=by rw [e];grind
  clear e w1 w2 w3 a1 a2 c1 c2 y
  generalize dv x-(k:Rat)*dv 4604418534311723008=d at *
  generalize dv 4609176140021203710=c at *
  constructor
  · rcases Rat.le_total (a:= -(3480/10000)) (b:=d) with t | t
    · exact t
    · have:=Rat.mul_nonneg (show 0≤c-14426/10000 by grind) (show 0≤ -(3480/10000)-d by grind)
      grind
  · rcases Rat.le_total (a:=d) (b:=3480/10000) with t | t
    · exact t
    · have:=Rat.mul_nonneg (show 0≤c-14426/10000 by grind) (show 0≤d-3480/10000 by grind)
      grind
 obtain ⟨s0,s1,s2⟩:=subG hx a0 (by rw [hA1];grind) (by rw [hA1];grind)
 rw [hA1] at s1 s2
 generalize hB:dv (fsub x (fmul (fint k) 4604418534311723008))=B at *
 obtain ⟨t0,t1,t2⟩:=subG s0 c0 (by rw [hB,hA3];grind) (by rw [hB,hA3];grind)
 rw [hB,hA3] at t1 t2
 exact ⟨t0,by grind,by grind⟩
theorem fparts : ∀ i:Fin 14,Fin' (fpart (facI i.1))∧0≤dv (fpart (facI i.1))∧dv (fpart (facI i.1))≤1:=by unfold Fin' U;decide +kernel
theorem fpart0:dv (fpart (facI 0))=1:=by decide +kernel
theorem Rep_c:Rep (1/4)∧Rep (7/4)∧Rep (-(7/4))∧Rep (3/4)∧Rep (-(3/4)):=by
 refine ⟨?_, ?_, ?_, ?_, ?_⟩
 · have:=Rep_q (M:=1) (d:=2) (by omega) (by omega) (by omega);rwa [show ((1:Int):Rat)/((2^2:Int):Rat)=1/4 by decide +kernel] at this
 · have:=Rep_q (M:=7) (d:=2) (by omega) (by omega) (by omega);rwa [show ((7:Int):Rat)/((2^2:Int):Rat)=7/4 by decide +kernel] at this
 · have:=Rep_q (M:= -7) (d:=2) (by omega) (by omega) (by omega);rwa [show ((-7:Int):Rat)/((2^2:Int):Rat)= -(7/4) by decide +kernel] at this
 · have:=Rep_q (M:=3) (d:=2) (by omega) (by omega) (by omega);rwa [show ((3:Int):Rat)/((2^2:Int):Rat)=3/4 by decide +kernel] at this
 · have:=Rep_q (M:= -3) (d:=2) (by omega) (by omega) (by omega);rwa [show ((-3:Int):Rat)/((2^2:Int):Rat)= -(3/4) by decide +kernel] at this
theorem hexp_ok {r:Int} (hr:Fin' r) (r1 : -(3/8)≤dv r) (r2:dv r≤3/8) : ∀ (i:Nat) (p:Int),i≤13→Fin' p→ -2≤dv p→dv p≤2→(i=0→1/4≤dv p)→Fin' (hexp r i p)∧1/4≤dv (hexp r i p)
 | 0,p,_,hp,_,_,h=>⟨hp,h rfl⟩
 | i+1,p,hi,hp,p1,p2,_=>by
   obtain ⟨c1,c2,c3,c4,c5⟩:=Rep_c
   have y:=mul_abs (a:=dv p) (A:=2) (b:=dv r) (B:=3/8) p1 p2 r1 r2
   obtain ⟨m0,m1,m2⟩:=mulR hp hr c5 c4 (by grind) (by grind)
   obtain ⟨f0,f1,f2⟩:=fparts ⟨i,by omega⟩
   dsimp only at f0 f1 f2
   have s:=addR m0 f0 c3 c2 (by grind) (by grind)
   refine hexp_ok hr r1 r2 i _ (by omega) s.1 (by grind) (by grind) (fun h0=> ?_)
   subst h0
   have e:=fpart0
   exact (addR m0 f0 c1 c2 (by grind) (by grind)).2.1
theorem fexp_main {x:Int} (hx:Fin' x) (h1 : -746≤dv x) (h2:dv x≤710):fk (fscale (hexp (er x) 13 (fpart (facI 13))) (ek x))≠4∧fs (fscale (hexp (er x) 13 (fpart (facI 13))) (ek x))=false:=by
 obtain ⟨r0,r1,r2⟩:=er_ok hx h1 h2
 obtain ⟨f0,f1,f2⟩:=fparts ⟨13,by omega⟩
 dsimp only at f0 f1 f2
 obtain ⟨p0,p1⟩:=hexp_ok r0 r1 r2 13 _ (by omega) f0 (by grind) (by grind) (fun h=>absurd h (by omega))
 generalize hexp (er x) 13 (fpart (facI 13))=p at *
 have sg:=(dv_sign (b:=p)).1 (by grind)
 unfold fscale
 rw [if_neg p0.2,sg.1]
 have r:=Rd_range (pm p) (pe p+min (max (ek x) (-5000)) 5000)
 have s:=sgn_mw r.1 r.2 false
 exact ⟨(sgn_fk r.1 r.2 false).1,s.2.1⟩
theorem Rep_of {q:Rat} (M:Int) (d:Nat) (h0 : -9007199254740992<M) (h1:M<9007199254740992) (hd:d≤1000) (e:(M:Rat)/((2^d:Int):Rat)=q):Rep q:=e▸Rep_q h0 h1 hd
def tiny:Rat:=1/9007199254740992
theorem Rep_k:Rep 0∧Rep (1/2)∧Rep (-(1/2))∧Rep (-(3/8))∧Rep (13/8)∧Rep 2∧Rep (5/2)∧Rep (1/4)∧Rep (-(1/4))∧Rep (1/16)∧Rep (1/32)∧Rep (1/64)∧Rep (-(1/64))∧Rep (33/64)∧Rep (-(33/64))∧Rep (11/16)∧Rep (-(11/16))∧Rep 1024∧Rep (-1024)∧Rep (1/512)∧Rep (-(1/512))∧Rep (17/32)∧Rep (-(17/32))∧Rep (1/8)∧Rep (-(1/8))∧Rep 2048∧Rep (-2048) :=
 ⟨Rep_of 0 0 (by omega) (by omega) (by omega) (by decide +kernel),Rep_of 1 1 (by omega) (by omega) (by omega) (by decide +kernel),Rep_of (-1) 1 (by omega) (by omega) (by omega) (by decide +kernel),Rep_of (-3) 3 (by omega) (by omega) (by omega) (by decide +kernel),Rep_of 13 3 (by omega) (by omega) (by omega) (by decide +kernel),Rep_of 2 0 (by omega) (by omega) (by omega) (by decide +kernel),Rep_of 5 1 (by omega) (by omega) (by omega) (by decide +kernel),Rep_of 1 2 (by omega) (by omega) (by omega) (by decide +kernel),Rep_of (-1) 2 (by omega) (by omega) (by omega) (by decide +kernel),Rep_of 1 4 (by omega) (by omega) (by omega) (by decide +kernel),Rep_of 1 5 (by omega) (by omega) (by omega) (by decide +kernel),Rep_of 1 6 (by omega) (by omega) (by omega) (by decide +kernel),Rep_of (-1) 6 (by omega) (by omega) (by omega) (by decide +kernel),Rep_of 33 6 (by omega) (by omega) (by omega) (by decide +kernel),Rep_of (-33) 6 (by omega) (by omega) (by omega) (by decide +kernel),Rep_of 11 4 (by omega) (by omega) (by omega) (by decide +kernel),Rep_of (-11) 4 (by omega) (by omega) (by omega) (by decide +kernel),Rep_of 1024 0 (by omega) (by omega) (by omega) (by decide +kernel),Rep_of (-1024) 0 (by omega) (by omega) (by omega) (by decide +kernel),Rep_of 1 9 (by omega) (by omega) (by omega) (by decide +kernel),Rep_of (-1) 9 (by omega) (by omega) (by omega) (by decide +kernel),Rep_of 17 5 (by omega) (by omega) (by omega) (by decide +kernel),Rep_of (-17) 5 (by omega) (by omega) (by omega) (by decide +kernel),Rep_of 1 3 (by omega) (by omega) (by omega) (by decide +kernel),Rep_of (-1) 3 (by omega) (by omega) (by omega) (by decide +kernel),Rep_of 2048 0 (by omega) (by omega) (by omega) (by decide +kernel),Rep_of (-2048) 0 (by omega) (by omega) (by omega) (by decide +kernel)⟩
theorem Rep_t:Rep tiny∧Rep (-tiny)∧Rep (tiny/4)∧Rep (-(tiny/2))∧Rep (tiny/2)∧tiny=1/9007199254740992 :=
 ⟨Rep_of 1 53 (by omega) (by omega) (by omega) (by decide +kernel),Rep_of (-1) 53 (by omega) (by omega) (by omega) (by decide +kernel),Rep_of 1 55 (by omega) (by omega) (by omega) (by decide +kernel),Rep_of (-1) 54 (by omega) (by omega) (by omega) (by decide +kernel),Rep_of 1 54 (by omega) (by omega) (by omega) (by decide +kernel),rfl⟩
theorem c_two:Fin' 4611686018427387904∧dv 4611686018427387904=2:=by unfold Fin' U;decide +kernel
theorem fparts2 : ∀ i:Fin 11,Fin' (fpart (2*(i.1:Int)+1))∧0≤dv (fpart (2*(i.1:Int)+1))∧(1≤i.1→dv (fpart (2*(i.1:Int)+1))≤3/8):=by unfold Fin' U;decide +kernel
theorem hlog_ok {z:Int} (hz:Fin' z) (z1:0≤dv z) (z2:dv z≤1/16) : ∀ (i:Nat) (p:Int),i≤9→Fin' p→0≤dv p→dv p≤1/2→Fin' (hlog z i p)∧0≤dv (hlog z i p)∧dv (hlog z i p)≤1/2
 | 0,p,_,hp,p1,p2=>⟨hp,p1,p2⟩
 | i+1,p,hi,hp,p1,p2=>by
   obtain ⟨k0,k1,_,_,_,_,_,_,_,k2,k3,_⟩:=Rep_k
   have y:=mul_abs (a:=dv p) (A:=1/2) (b:=dv z) (B:=1/16) (by grind) p2 (by grind) z2
   have y0:=Rat.mul_nonneg p1 z1
   obtain ⟨m0,m1,m2⟩:=mulR hp hz k0 k3 y0 (by grind)
   obtain ⟨f0,f1,f2⟩:=fparts2 ⟨i+1,by omega⟩
   have f2:=f2 (by show 1≤i+1;omega)
   have e:(2*(((⟨i+1,by omega⟩:Fin 11).1:Nat):Int)+1)=2*((i:Int)+1)+1:=by show 2*((i+1:Nat):Int)+1=_;omega
   rw [e] at f0 f1 f2
   have s:=addR m0 f0 k0 k1 (by grind) (by grind)
   exact hlog_ok hz z1 z2 i _ (by omega) s.1 s.2.1 s.2.2
theorem ly_ok {f:Int} (hf:Fin' f) (f1:5/8≤dv f) (f2:dv f≤3/2) (hg:1<dv f→1+tiny≤dv f) (hl:dv f<1→dv f≤1-tiny):Fin' (ly f)∧ -(33/64)≤dv (ly f)∧dv (ly f)≤33/64∧(1<dv f→0<dv (ly f))∧(dv f<1→dv (ly f)<0):=by
 obtain ⟨k0,h2,n2,n38,k138,k2,k52,k4,n4,k16,k32,k64,n64,k33,n33,_⟩:=Rep_k
 obtain ⟨t1,t2,t3,t4,t5,et⟩:=Rep_t
 obtain ⟨_,_,_,cf⟩:=c_fin
 obtain ⟨w0,w1⟩:=c_two
 have c1:=c_one
 have ht0:0<tiny:=by rw [et];decide +kernel
 have ht1:tiny≤1/1000:=by rw [et];decide +kernel
 clear et
 have T:Fin' (fsub f 4607182418800017408)∧ -(3/8)≤dv (fsub f 4607182418800017408)∧dv (fsub f 4607182418800017408)≤1/2∧(1<dv f→tiny≤dv (fsub f 4607182418800017408))∧(dv f<1→dv (fsub f 4607182418800017408)≤ -tiny)∧(dv f=1→dv (fsub f 4607182418800017408)=0):=by
  have a:=subR hf cf n38 h2 (by rw [c1];grind) (by rw [c1];grind)
  refine ⟨a.1,a.2.1,a.2.2,fun h=> ?_,fun h=> ?_,fun h=> ?_⟩
  · have:=hg h
    exact (subR hf cf t1 h2 (by rw [c1];grind) (by rw [c1];grind)).2.1
  · have:=hl h
    exact (subR hf cf n38 t2 (by rw [c1];grind) (by rw [c1];grind)).2.2
  · have b:=subR hf cf k0 k0 (by rw [c1];grind) (by rw [c1];grind)
    exact Rat.le_antisymm b.2.2 b.2.1
 obtain ⟨T0,T1,T2,T3,T4,T5⟩:=T
 unfold ly lp lz ls
 generalize fsub f 4607182418800017408=t at *
 have D:Fin' (fadd 4611686018427387904 t)∧13/8≤dv (fadd 4611686018427387904 t)∧dv (fadd 4611686018427387904 t)≤5/2∧(0≤dv t→2≤dv (fadd 4611686018427387904 t))∧(dv t≤0→dv (fadd 4611686018427387904 t)≤2):=by
  have a:=addR w0 T0 k138 k52 (by rw [w1];grind) (by rw [w1];grind)
  exact ⟨a.1,a.2.1,a.2.2,fun h=>(addR w0 T0 k2 k52 (by rw [w1];grind) (by rw [w1];grind)).2.1,fun h=>(addR w0 T0 k138 k2 (by rw [w1];grind) (by rw [w1];grind)).2.2⟩
 obtain ⟨D0,D1,D2,D3,D4⟩:=D
 generalize fadd 4611686018427387904 t=d at *
 have dp:0<dv d:=by grind
 have S:Fin' (fdiv t d)∧ -(1/4)≤dv (fdiv t d)∧dv (fdiv t d)≤1/4∧(1<dv f→tiny/4≤dv (fdiv t d))∧(dv f<1→dv (fdiv t d)≤ -(tiny/2)):=by
  have a:=divR T0 D0 dp n4 k4 (by rcases Rat.le_total (a:=0) (b:=dv t) with h | h<;>grind) (by
   rcases Rat.le_total (a:=0) (b:=dv t) with h | h
   · have:=D3 h;grind
   · grind)
  refine ⟨a.1,a.2.1,a.2.2,fun h=> ?_,fun h=> ?_⟩
  · have h3:=T3 h
    refine (divR T0 D0 dp t3 k4 ?_ ?_).2.1
    · have:=Rat.mul_nonneg (show 0≤tiny/4 by grind) (show 0≤5/2-dv d by grind)
      grind
    · have:=D3 (by grind);grind
  · have h4:=T4 h
    have d2:=D4 (by grind)
    refine (divR T0 D0 dp n4 t4 (by grind) ?_).2.2
    have:=Rat.mul_nonneg (show 0≤tiny/2 by grind) (show 0≤2-dv d by grind)
    grind
 obtain ⟨S0,S1,S2,S3,S4⟩:=S
 generalize fdiv t d=s at *
 clear D0 D1 D2 D3 D4 dp T0 T1 T2 T3 T4 T5
 have sq:=mul_abs (a:=dv s) (A:=1/4) (b:=dv s) (B:=1/4) S1 S2 S1 S2
 have sq0:0≤dv s*dv s:=by
  rcases Rat.le_total (a:=0) (b:=dv s) with h | h
  · exact Rat.mul_nonneg h h
  · have:=Rat.mul_nonneg (show 0≤ -(dv s) by grind) (show 0≤ -(dv s) by grind)
    grind
 obtain ⟨Z0,Z1,Z2⟩:=mulR S0 S0 k0 k16 sq0 (by grind)
 generalize fmul s s=z at *
 clear sq sq0
 have P:=hlog_ok Z0 Z1 Z2 9 (fpart 21) (by omega) (fparts2 ⟨10,by omega⟩).1 (fparts2 ⟨10,by omega⟩).2.1 (by have:=(fparts2 ⟨10,by omega⟩).2.2 (by decide);have e:fpart (2*(((⟨10,by omega⟩:Fin 11).1:Nat):Int)+1)=fpart 21:=rfl;rw [e] at this;grind)
 obtain ⟨P0,P1,P2⟩:=P
 generalize hlog z 9 (fpart 21)=p at *
 have pz:=mul_abs (a:=dv p) (A:=1/2) (b:=dv z) (B:=1/16) (by grind) P2 (by grind) Z2
 have pz0:=Rat.mul_nonneg P1 Z1
 obtain ⟨Q0,Q1,Q2⟩:=mulR P0 Z0 k0 k32 pz0 (by grind)
 generalize fmul p z=q at *
 clear pz pz0 P0 P1 P2 Z0 Z1 Z2
 have Uu:Fin' (fadd s s)∧ -(1/2)≤dv (fadd s s)∧dv (fadd s s)≤1/2∧(1<dv f→tiny/2≤dv (fadd s s))∧(dv f<1→dv (fadd s s)≤ -tiny):=by
  have a:=addR S0 S0 n2 h2 (by grind) (by grind)
  exact ⟨a.1,a.2.1,a.2.2,fun h=>by have:=S3 h;exact (addR S0 S0 t5 h2 (by grind) (by grind)).2.1,fun h=>by have:=S4 h;exact (addR S0 S0 n2 t2 (by grind) (by grind)).2.2⟩
 obtain ⟨U0,U1,U2,U3,U4⟩:=Uu
 generalize fadd s s=u at *
 have uq:=mul_abs (a:=dv u) (A:=1/2) (b:=dv q) (B:=1/32) U1 U2 (by grind) Q2
 have W:Fin' (fmul u q)∧ -(1/64)≤dv (fmul u q)∧dv (fmul u q)≤1/64∧(0≤dv u→0≤dv (fmul u q))∧(dv u≤0→dv (fmul u q)≤0):=by
  have a:=mulR U0 Q0 n64 k64 (by grind) (by grind)
  refine ⟨a.1,a.2.1,a.2.2,fun h=> ?_,fun h=> ?_⟩
  · exact (mulR U0 Q0 k0 k64 (Rat.mul_nonneg h Q1) (by grind)).2.1
  · have:=Rat.mul_nonneg (show 0≤ -(dv u) by grind) Q1
    exact (mulR U0 Q0 n64 k0 (by grind) (by grind)).2.2
 obtain ⟨W0,W1,W2,W3,W4⟩:=W
 generalize fmul u q=w at *
 have a:=addR U0 W0 n33 k33 (by grind) (by grind)
 refine ⟨a.1,a.2.1,a.2.2,fun h=> ?_,fun h=> ?_⟩
 · have h3:=U3 h
   have h5:=W3 (by grind)
   have:=(addR U0 W0 t5 k33 (by grind) (by grind)).2.1
   grind
 · have h4:=U4 h
   have h6:=W4 (by grind)
   have:=(addR U0 W0 n33 t2 (by grind) (by grind)).2.2
   grind
theorem flogS_ok {f k:Int} (hf:Fin' f) (f1:5/8≤dv f) (f2:dv f≤3/2) (hg:1<dv f→1+tiny≤dv f) (hl:dv f<1→dv f≤1-tiny) (k1 : -1100≤k) (k2:k≤1100):Fin' (flogS f k)∧(1≤k→0<dv (flogS f k))∧(k≤ -1→dv (flogS f k)<0)∧(k=0→(1<dv f→0<dv (flogS f k))∧(dv f<1→dv (flogS f k)<0)):=by
 obtain ⟨Y0,Y1,Y2,Y3,Y4⟩:=ly_ok hf f1 f2 hg hl
 obtain ⟨r0,_,_,_,_,_,_,_,_,_,_,_,_,k33,n33,k11,n11,k1024,n1024,k512,n512,k17,n17,k8,n8,k2048,n2048⟩:=Rep_k
 obtain ⟨_,c1,c2,_⟩:=c_fin
 obtain ⟨p1,p2⟩:=c_ln2
 obtain ⟨l1,l2⟩:=c_low
 unfold flogS
 by_cases hk:k=0
 · rw [if_pos hk]
   exact ⟨Y0,fun h=>by omega,fun h=>by omega,fun _=>⟨Y3,Y4⟩⟩
 rw [if_neg hk]
 obtain ⟨g1,g2⟩:=fint_Fin (n:=k) (by omega) (by omega)
 have kr1 : -1100≤(k:Rat):=by
  have:=Rat.intCast_le_intCast.2 k1
  rwa [show ((-1100:Int):Rat)= -1100 from rfl] at this
 have kr2:(k:Rat)≤1100:=by
  have:=Rat.intCast_le_intCast.2 k2
  rwa [show ((1100:Int):Rat)=1100 from rfl] at this
 have w1:=mul_abs (a:=(k:Rat)) (A:=1100) (b:=dv 4604418534311723008) (B:=7/10) kr1 kr2 (by grind) p2
 have w2:=mul_abs (a:=(k:Rat)) (A:=1100) (b:=dv 4461442080421002358) (B:=1/1048576) kr1 kr2 (by grind) l2
 rcases (show 1≤k∨k≤ -1 by omega) with hp | hp
 · have kp:1≤(k:Rat):=by
    have:=Rat.intCast_le_intCast.2 hp
    rwa [show ((1:Int):Rat)=1 from rfl] at this
   have m1:=Rat.mul_nonneg (show 0≤(k:Rat)-1 by grind) (show 0≤dv 4604418534311723008 by grind)
   have m2:=Rat.mul_nonneg (show 0≤(k:Rat) by grind) l1
   obtain ⟨A0,A1,A2⟩:=mulR g1 c1 k11 k1024 (by rw [g2];grind) (by rw [g2];grind)
   obtain ⟨C0,C1,C2⟩:=mulR g1 c2 r0 k512 (by rw [g2];grind) (by rw [g2];grind)
   obtain ⟨B0,B1,B2⟩:=addR Y0 C0 n33 k17 (by grind) (by grind)
   have E:=addR A0 B0 k8 k2048 (by grind) (by grind)
   exact ⟨E.1,fun _=>by grind,fun h=>by omega,fun h=>absurd h hk⟩
 · have kp:(k:Rat)≤ -1:=by
    have:=Rat.intCast_le_intCast.2 hp
    rwa [show ((-1:Int):Rat)= -1 from rfl] at this
   have m1:=Rat.mul_nonneg (show 0≤ -(k:Rat)-1 by grind) (show 0≤dv 4604418534311723008 by grind)
   have m2:=Rat.mul_nonneg (show 0≤ -(k:Rat) by grind) l1
   obtain ⟨A0,A1,A2⟩:=mulR g1 c1 n1024 n11 (by rw [g2];grind) (by rw [g2];grind)
   obtain ⟨C0,C1,C2⟩:=mulR g1 c2 n512 r0 (by rw [g2];grind) (by rw [g2];grind)
   obtain ⟨B0,B1,B2⟩:=addR Y0 C0 n17 k33 (by grind) (by grind)
   have E:=addR A0 B0 n2048 n8 (by grind) (by grind)
   exact ⟨E.1,fun h=>by omega,fun _=>by grind,fun h=>absurd h hk⟩
theorem c_root:Fin' 4609047870845172685∧(1414:Rat)/1000≤dv 4609047870845172685∧dv 4609047870845172685≤1415/1000:=by unfold Fin' U;decide +kernel
theorem sign_of {l:Int} (h:Fin' l):(0<dv l→fs l=false∧fk l≠0)∧(dv l<0→fs l=true∧fk l≠0):=by
 have s:=dv_sign (b:=l)
 have z:0<V l→fk l≠0:=fun hv k=>by
  have:V l=0:=by unfold V;rw [((fk_eq l).2.2.2.1.1 k).2,Int.zero_mul]
  omega
 exact ⟨fun h=>⟨(s.1 h).1,z (s.1 h).2⟩,fun h=>⟨(s.2.1 h).1,z (s.2.1 h).2⟩⟩
theorem one_oi:((2^1074:Int):Rat)*oi=1:=O_oi
theorem flog_main {x:Int} (hx:Fin' x) (hs:fs x=false) (hp:0<pm x) (h1:x≠4607182418800017408):Fin' (flogS (splitF x).1 (splitF x).2)∧fk (flogS (splitF x).1 (splitF x).2)≠0∧fs (flogS (splitF x).1 (splitF x).2)=less x 4607182418800017408:=by
 have pr:=pm_range x
 have per:=pe_range x
 have pe1:=per.2.2.1 hx.2
 have bp:=bl_pos hp
 have b53:bl (pm x)≤53:=bl_le_of (n:=53) (by have:(2:Int)^53=9007199254740992:=by decide
                                             omega)
 obtain ⟨a1,a2,a3,a4⟩:=V_exact (M:=pm x) (l:=1-bl (pm x)) hp pr.2 (by omega) (by omega)
 obtain ⟨b1,b2,b3,b4⟩:=V_exact (M:=pm x) (l:= -bl (pm x)) hp pr.2 (by omega) (by omega)
 obtain ⟨r0,r1,r2⟩:=c_root
 have F1:Fin' (Rd (pm x) (1-bl (pm x))):=⟨a4,a1⟩
 have F2:Fin' (Rd (pm x) (-bl (pm x))):=⟨b4,b1⟩
 have l1:=bl_le hp
 have l2:=bl_lt (pm x)
 obtain ⟨n,hn⟩ : ∃ n:Nat,bl (pm x)=n+1:=⟨(bl (pm x)-1).toNat,by omega⟩
 have hx1:SV x=pm x*2^(pe x+1074).toNat:=by unfold SV V;rw [hs];rfl
 have s1:SV (Rd (pm x) (1-bl (pm x)))=2*(pm x*2^(1073-n)):=by
  unfold SV
  rw [a2,a3,hn,show (1-((n:Int)+1)+1074).toNat=(1073-n)+1 by omega,Int.pow_succ]
  show pm x*(2^(1073-n)*2)=_
  generalize (2:Int)^(1073-n)=y
  grind
 have s2:SV (Rd (pm x) (-bl (pm x)))=pm x*2^(1073-n):=by
  unfold SV
  rw [b2,b3,hn,show (-((n:Int)+1)+1074).toNat=1073-n by omega]
  rfl
 have hn2:n≤52:=by omega
 rw [hn,show ((n:Int)+1-1).toNat=n by omega] at l1
 rw [hn,show ((n:Int)+1).toNat=n+1 by omega,Int.pow_succ] at l2
 have eP:(2:Int)^1074=2^n*(2*2^(1073-n)):=by
  rw [show (2:Int)*2^(1073-n)=2^(1073-n+1) by rw [Int.pow_succ,Int.mul_comm],← Int.pow_add]
  congr 1
  omega
 have P0:=pow_pos (1073-n)
 have gr:(2:Int)^1021≤2^(1073-n):=pow_le_pow (by omega)
 have et:tiny=((2^1021:Int):Rat)*oi:=by
  have e:((2^1074:Int):Rat)=((2^1021:Int):Rat)*9007199254740992:=by
   rw [show (1074:Nat)=1021+53 from rfl,Int.pow_add,Rat.intCast_mul]
   rfl
  have x:=one_oi
  rw [e] at x
  have t:tiny=1/9007199254740992:=rfl
  generalize ((2^1021:Int):Rat)=y at *
  rw [t]
  grind
 have up:0<pe x+n→ ¬ (dv x<1):=by
  intro h
  rw [Rat.not_lt,← one_oi]
  unfold dv
  rw [le_oi,hx1,eP]
  have e:=pow_le_pow (a:=1073-n+1) (b:=(pe x+1074).toNat) (by omega)
  rw [Int.pow_succ] at e
  have m1:=Int.mul_le_mul_of_nonneg_left e (Int.le_of_lt hp)
  have m2:=Int.mul_le_mul_of_nonneg_right l1 (show 0≤2*2^(1073-n) by omega)
  have:pm x*(2^(1073-n)*2)=pm x*(2*2^(1073-n)):=by rw [Int.mul_comm (2^(1073-n))]
  omega
 have upE : ¬ (dv x<1)∨0≤pe x+n→0≤pe x+n→True:=fun _ _=>trivial
 have dn:pe x+n+1≤0→dv x<1:=by
  intro h
  have : ¬ (1≤dv x):=by
   rw [← one_oi]
   unfold dv
   rw [le_oi,hx1,eP]
   have e:=pow_le_pow (a:=(pe x+1074).toNat) (b:=1073-n) (by omega)
   have m1:=Int.mul_le_mul_of_nonneg_left e (Int.le_of_lt hp)
   have m2:=Int.mul_lt_mul_of_pos_right l2 P0
   have:2^n*2*2^(1073-n)=2^n*(2*(2:Int)^(1073-n)):=by rw [Int.mul_assoc]
   omega
  exact Rat.not_le.1 this
 have md:pe x+n=0→SV x=SV (Rd (pm x) (1-bl (pm x))):=by
  intro h
  rw [hx1,s1,show (pe x+1074).toNat=(1073-n)+1 by omega,Int.pow_succ]
  generalize (2:Int)^(1073-n)=y
  grind
 have cl:=less_dv (a:=x) (b:=4607182418800017408) hx c_fin.2.2.2
 rw [c_one] at cl
 have lf : ∀ {b:Bool},(b=true↔dv x<1)→b=less x 4607182418800017408:=fun {b} h=>Bool.eq_iff_iff.2 (h.trans cl.symm)
 have c2:=less_dv r0 F1
 unfold splitF
 have v1:dv (Rd (pm x) (1-bl (pm x)))=2*dv (Rd (pm x) (-bl (pm x))):=by
  unfold dv
  rw [s1,s2,Rat.intCast_mul,show ((2:Int):Rat)=2 from rfl,Rat.mul_assoc]
 have half:1/2≤dv (Rd (pm x) (-bl (pm x))):=by
  have:(1:Rat)≤dv (Rd (pm x) (1-bl (pm x))):=by
   rw [← one_oi]
   unfold dv
   rw [le_oi,s1,eP]
   have m2:=Int.mul_le_mul_of_nonneg_right l1 (show 0≤2*2^(1073-n) by omega)
   have:2*(pm x*2^(1073-n))=pm x*(2*2^(1073-n)):=by
    generalize (2:Int)^(1073-n)=y
    grind
   omega
  rw [v1] at this
  grind
 have lt1:dv (Rd (pm x) (-bl (pm x)))≤1-tiny:=by
  have:dv (Rd (pm x) (-bl (pm x)))+tiny≤1:=by
   rw [← one_oi,et]
   unfold dv
   rw [← Rat.add_mul,← Rat.intCast_add,le_oi,s2,eP]
   have m2:=Int.mul_le_mul_of_nonneg_right (show pm x+1≤2^n*2 by omega) (Int.le_of_lt P0)
   rw [Int.add_mul,Int.one_mul,Int.mul_assoc] at m2
   omega
  grind
 have gt1:1<dv (Rd (pm x) (1-bl (pm x)))→1+tiny≤dv (Rd (pm x) (1-bl (pm x))):=by
  intro h
  have hlt:2^n<pm x:=by
   rcases (show pm x=2^n∨2^n<pm x by omega) with k | k
   · have:dv (Rd (pm x) (1-bl (pm x)))=1:=by
      have e:2*((2:Int)^n*2^(1073-n))=2^n*(2*2^(1073-n)):=by
       generalize (2:Int)^(1073-n)=y
       generalize (2:Int)^n=z
       grind
      have o:=one_oi
      rw [eP] at o
      unfold dv
      rw [s1,k,e]
      exact o
     rw [this] at h
     exact absurd h (by decide)
   · exact k
  rw [← one_oi,et]
  unfold dv
  rw [← Rat.add_mul,← Rat.intCast_add,le_oi,s1,eP]
  have m2:=Int.mul_le_mul_of_nonneg_right (show 2^n+1≤pm x by omega) (show 0≤2*2^(1073-n) by omega)
  have e1:2*(pm x*2^(1073-n))=pm x*(2*2^(1073-n)):=by
   generalize (2:Int)^(1073-n)=y
   grind
  rw [e1]
  rw [Int.add_mul,Int.one_mul] at m2
  omega
 have tp:0<tiny:=by decide +kernel
 by_cases hr:less 4609047870845172685 (Rd (pm x) (1-bl (pm x)))=true
 · rw [if_pos hr]
   dsimp only
   have hr:=c2.1 hr
   rw [v1] at hr
   obtain ⟨q0,q1,q2,q3⟩:=flogS_ok (k:=pe x+bl (pm x)) F2 (by grind) (by grind) (fun h=>by grind) (fun _=>lt1) (by omega) (by omega)
   have sg:=sign_of q0
   rcases (show 1≤pe x+bl (pm x)∨pe x+bl (pm x)=0∨pe x+bl (pm x)≤ -1 by omega) with k | k | k
   ·
    have g:=sg.1 (q1 k)
    have nl : ¬ (dv x<1):=by
     rcases (show 0<pe x+n∨pe x+n=0 by omega) with c | c
     · exact up c
     · have:=md c
       have e:dv x=dv (Rd (pm x) (1-bl (pm x))):=by unfold dv;rw [this]
       rw [e,v1]
       grind
    exact ⟨q0,g.2,lf ⟨fun h=>by rw [g.1] at h;exact absurd h (by decide),fun h=>absurd h nl⟩⟩
   · have g:=sg.2 ((q3 k).2 (by grind))
     exact ⟨q0,g.2,lf ⟨fun _=>dn (by omega),fun _=>g.1⟩⟩
   · have g:=sg.2 (q2 k)
     exact ⟨q0,g.2,lf ⟨fun _=>dn (by omega),fun _=>g.1⟩⟩
 · rw [if_neg hr]
   dsimp only
   have hr:dv (Rd (pm x) (1-bl (pm x)))≤dv 4609047870845172685:=Rat.not_lt.1 (fun h=>hr (c2.2 h))
   obtain ⟨q0,q1,q2,q3⟩:=flogS_ok (k:=pe x+bl (pm x)-1) F1 (by grind) (by grind) gt1 (fun h=>by grind) (by omega) (by omega)
   have sg:=sign_of q0
   rcases (show 1≤pe x+bl (pm x)-1∨pe x+bl (pm x)-1=0∨pe x+bl (pm x)-1≤ -1 by omega) with k | k | k
   · have g:=sg.1 (q1 k)
     exact ⟨q0,g.2,lf ⟨fun h=>by rw [g.1] at h;exact absurd h (by decide),fun h=>absurd h (up (by omega))⟩⟩
   · have e:dv x=dv (Rd (pm x) (1-bl (pm x))):=by unfold dv;rw [md (by omega)]
     have ge:1≤dv (Rd (pm x) (1-bl (pm x))):=by rw [v1];grind
     have ne:dv (Rd (pm x) (1-bl (pm x)))≠1:=by
      intro h
      rw [← e,← one_oi] at h
      unfold dv at h
      have hS:SV x=2^1074:=by
       have a:=le_oi (a:=SV x) (b:=2^1074)
       have b:=le_oi (a:=2^1074) (b:=SV x)
       rw [h] at a b
       have:=a.1 Rat.le_refl
       have:=b.1 Rat.le_refl
       omega
      have hV:V x=V 4607182418800017408:=by
       have v:=V_one.1
       unfold SV at hS
       rw [hs] at hS
       have hS:V x=2^1074:=hS
       omega
      have hm:=(V_iff x 4607182418800017408).2.1 hV
      have w:=word_parts hx.1
      unfold mw at hm
      rw [hs,hm] at w
      exact h1 (w.trans (by decide))
     have gt:1<dv (Rd (pm x) (1-bl (pm x))):=Rat.lt_of_le_of_ne ge (fun h=>ne h.symm)
     have g:=sg.1 ((q3 k).1 gt)
     exact ⟨q0,g.2,lf ⟨fun h=>by rw [g.1] at h;exact absurd h (by decide),fun h=>by rw [e] at h;grind⟩⟩
   · have g:=sg.2 (q2 k)
     exact ⟨q0,g.2,lf ⟨fun _=>dn (by omega),fun _=>g.1⟩⟩
theorem flog_signs {x:Int} (hU:U x) (h4:fk x≠4) (hl:less x 0=false):fk (flog x)≠4∧fs (flog x)=less x 4607182418800017408∧(fk (flog x)=0↔x=4607182418800017408):=by
 by_cases h1:x=4607182418800017408
 · rw [h1]
   have:flog 4607182418800017408=0:=by decide +kernel
   rw [this]
   decide +kernel
 have w:=word_parts hU
 unfold flog
 by_cases h0:fk x=0
 · rw [if_pos h0]
   refine ⟨by decide, ?_,⟨fun h=>absurd h (by decide),fun h=>absurd h h1⟩⟩
   have z:=(fk_eq x).2.2.1.1 h0
   rw [z.1,z.2] at w
   rw [w]
   cases fs x<;>decide
 rw [if_neg h0]
 have fsx:fs x=false:=by
  cases hs:fs x
  · rfl
  · unfold less at hl
    rw [decide_eq_false_iff_not] at hl
    refine absurd ⟨h4,by decide, ?_⟩ hl
    have e:fkey 0=0:=by decide
    rw [e,fkey_mw hU,hs]
    show -(mw x)<0
    have m:=mw_nonneg x
    rcases (show mw x=0∨0<mw x by omega) with k | k
    · have r1:= @fx_range x
      have r2:= @fr_range x
      unfold mw at k
      exact absurd ((fk_eq x).2.2.1.2 ⟨by omega,by omega⟩) h0
    · omega
 rw [if_neg (by rw [fsx];simp [h4])]
 by_cases h3:fk x=3
 · rw [if_pos h3]
   have e:x=INF:=by
    have:=word_inf hU h3
    rw [fsx] at this
    exact this.symm
   rw [e]
   decide
 rw [if_neg h3]
 have hx:Fin' x:=⟨hU,fk_fin h4 h3⟩
 have hp:0<pm x:=by
  have:=(pm_range x).1
  rcases (show pm x=0∨0<pm x by omega) with k | k
  · exact absurd ((fk_eq x).2.2.2.1.2 ⟨hx.2,k⟩) h0
  · exact k
 obtain ⟨m1,m2,m3⟩:=flog_main hx fsx hp h1
 exact ⟨(fin_fk m1.2).1,m3,⟨fun h=>absurd h m2,fun h=>absurd h h1⟩⟩
theorem flog_none {x:Int} (hU:U x) (h:fk x=4∨less x 0=true):fk (flog x)=4:=by
 unfold flog
 rcases h with h | h
 · rw [if_neg (by omega),if_pos (.inl h)];decide
 · unfold less at h
   rw [decide_eq_true_iff] at h
   have e:fkey 0=0:=by decide
   rw [e,fkey_mw hU] at h
   have m:=mw_nonneg x
   have hs:fs x=true:=by
    cases hs:fs x
    · rw [hs] at h
      have:mw x<0:=h.2.2
      omega
    · rfl
   have h0:fk x≠0:=by
    intro k
    have z:=(fk_eq x).2.2.1.1 k
    rw [hs] at h
    have : -(mw x)<0:=h.2.2
    unfold mw at this
    omega
   rw [if_neg h0,if_pos (.inr hs)]
   decide
theorem fexp_signs {x:Int} (hU:U x):(fk (fexp x)=4↔fk x=4)∧fs (fexp x)=false:=by
 unfold fexp
 by_cases h4:fk x=4
 · rw [if_pos h4]
   exact ⟨⟨fun _=>h4,fun _=>by decide⟩,by decide⟩
 rw [if_neg h4]
 by_cases h1:less (fint 710) x=true
 · rw [if_pos h1]
   exact ⟨⟨fun h=>absurd h (by decide),fun h=>absurd h h4⟩,by decide⟩
 rw [if_neg h1]
 by_cases h2:less x (fint (-746))=true
 · rw [if_pos h2]
   exact ⟨⟨fun h=>absurd h (by decide),fun h=>absurd h h4⟩,by decide⟩
 rw [if_neg h2]
 have h3:fk x≠3:=by
  intro h3
  have e:=word_inf hU h3
  cases hs:fs x
  · rw [hs] at e
    rw [← e] at h1
    exact h1 (by decide +kernel)
  · rw [hs] at e
    rw [← e] at h2
    exact h2 (by decide +kernel)
 have hx:Fin' x:=⟨hU,fk_fin h4 h3⟩
 have f1:=fint_Fin (n:=710) (by omega) (by omega)
 have f2:=fint_Fin (n:= -746) (by omega) (by omega)
 have b1:dv x≤710:=by
  have:=Rat.not_lt.1 (fun h=>h1 ((less_dv f1.1 hx).2 h))
  rwa [f1.2,show ((710:Int):Rat)=710 from rfl] at this
 have b2 : -746≤dv x:=by
  have:=Rat.not_lt.1 (fun h=>h2 ((less_dv hx f2.1).2 h))
  rwa [f2.2,show ((-746:Int):Rat)= -746 from rfl] at this
 have M:=fexp_main hx b2 b1
 exact ⟨⟨fun h=>absurd h M.1,fun h=>absurd h h4⟩,M.2⟩
theorem law14_same_c:Ev (fun k=>gradinelaw14_same.f k) true:=by
 have u0:U 0:=by unfold U;omega
 have u1:U 9223372036854775808:=by unfold U;omega
 have u2:U 4607182418800017408:=by unfold U;omega
 refine Ev.bind (kernel_Exp_c u0) (Ev.ifp (by decide +kernel) (Ev.bind (kernel_Exp_c u1) (Ev.ifp (by decide +kernel) (Ev.bind (kernel_Log_c u2) (Ev.ifp (by decide +kernel) (Ev.bind (kernel_Log_c u0) (Ev.same (by decide +kernel))))))))
end Go.Proofs.Ytjocbnjpjihpnaa.M
