/- What the functions answer, over plain numbers. -/
import Derived.Test.YtjocbnjpjihpnaaGreatBB
import Derived.Test.YtjocbnjpjihpnaaGreatCCa
import Derived.Test.YtjocbnjpjihpnaaGreatFgradinelaw15Many
import Derived.Test.YtjocbnjpjihpnaaGreatFgradinelaw16Few
import Derived.Test.YtjocbnjpjihpnaaGreatFgradinelaw17few
import Derived.Test.YtjocbnjpjihpnaaGreatRT
import Derived.Test.YtjocbnjpjihpnaaGreatFgradinelaw17three
import Derived.Test.YtjocbnjpjihpnaaGreatFgradinelaw17same
namespace Go.Proofs.YtjocbnjpjihpnaaGreat.M
open Go.RowKit Go.Proofs.YtjocbnjpjihpnaaGreat.P Go.Proofs.YtjocbnjpjihpnaaGreatW.PrintWords Go.Proofs.YtjocbnjpjihpnaaGreatW.PrintLast Go.Proofs.YtjocbnjpjihpnaaGreatW.PrintMore Go.Proofs.YtjocbnjpjihpnaaGreatW.Abs
set_option linter.unusedVariables false

theorem Trim_dg {x:Int} (hx:0≤x) (bx:bl x≤60000):Ev (fun k=>nat_Trim.f k (dg x)) (dg x):=by
 have T:=nat_Trim_c (l:=dg x) (Wl_dg (by omega))
 rw [nv_dg hx] at T
 exact T
theorem Rq_neg (S:Int) {D:Int} (hD:0<D):Rq (-S) D=(decide (0<S),(Rq S D).2.1,(Rq S D).2.2):=by
 have e:ab (-S)=ab S:=by unfold ab;split<;>split<;>omega
 unfold Rq
 rw [e]
 by_cases h:S=0
 · rw [if_pos h,if_pos (by omega),decide_eq_false (by omega)]
 · rw [if_neg h,if_neg (by omega)]
   congr 1
   exact decide_eq_decide.2 (by omega)
theorem rat_Neg_c {S D:Int} (h:Fit S D):Ev (fun k=>rat_Neg.f k (Rq S D).1 (Rq S D).2.1 (Rq S D).2.2) (Rq (-S) D):=by
 rw [Rq_neg S h.1]
 obtain ⟨N,E,h1,h2,h3,h4,h5,h6,h7⟩:=Rq_fit h
 rw [h1]
 dsimp only
 have T1:=Trim_dg h2 (by omega)
 have T2:=Trim_dg (Int.le_of_lt h3) (by omega)
 have lN:=dg_len_bl N
 have B:=nat_Bits_c (l:=dg N) (Wl_dg (by omega))
 rw [nv_dg h2] at B
 by_cases hs:S<0
 · rw [decide_eq_true hs,decide_eq_false (show ¬ 0<S by omega)]
   exact Ev.ifp rfl (Ev.bind T1 (Ev.bind T2 (Ev.same rfl)))
 · rw [decide_eq_false hs]
   refine Ev.ifn (by decide) (Ev.bind B (Ev.bind T1 (Ev.bind T2 (Ev.same ?_))))
   congr 2
   refine decide_eq_decide.2 ?_
   rcases (show N=0∨0<N by omega) with k | k
   · rw [k,bl_zero];have:=h7.1 k;omega
   · have:=bl_pos k;have:S≠0:=fun q=>by have:=h7.2 q;omega
     omega
theorem rat_Sub_c {S D S' D':Int} (h:Fit S D) (h':Fit S' D'):Ev (fun k=>rat_Sub.f k (Rq S D).1 (Rq S D).2.1 (Rq S D).2.2 (Rq S' D').1 (Rq S' D').2.1 (Rq S' D').2.2) (Rq (S*D'-S'*D) (D*D')):=by
 refine Ev.bind (rat_Neg_c h') (Ev.bind (rat_Add_c h (Fit_neg h')) (Ev.same ?_))
 rw [Int.neg_mul]
 rfl
def Fb (n:Int) (S D:Int):Prop:=0<D∧bl (ab S)≤n∧bl D≤n
theorem Fb_fit {n S D:Int} (h:Fb n S D) (hn:n≤14000):Fit S D:=⟨h.1,by have:=h.2.1;omega,by have:=h.2.2;omega⟩
theorem ab_prod (x y:Int):ab (x*y)=ab x*ab y:=by
 rcases Int.lt_or_le y 0 with h | h
 · have e:x*y=(-x)*(-y):=by rw [Int.neg_mul_neg]
   have a1:ab (-x)=ab x:=by unfold ab;split<;>split<;>omega
   have a2:ab y= -y:=by unfold ab;rw [if_pos h]
   rw [e,ab_mul _ (show 0 < -y by omega),a1,a2]
 · rcases (show y=0∨0<y by omega) with k | k
   · rw [k,Int.mul_zero,show ab 0=0 from rfl,Int.mul_zero]
   · rw [ab_mul _ k]
     have:ab y=y:=by unfold ab;rw [if_neg (by omega)]
     rw [this]
theorem ab_add (x y:Int):ab (x+y)≤ab x+ab y:=by unfold ab;split<;>split<;>split<;>omega
theorem Fb_neg {n S D:Int} (h:Fb n S D):Fb n (-S) D:=by
 have:ab (-S)=ab S:=by unfold ab;split<;>split<;>omega
 unfold Fb
 rw [this]
 exact h
theorem Fb_add {n m S D S' D':Int} (h:Fb n S D) (h':Fb m S' D'):Fb (n+m+1) (S*D'+S'*D) (D*D'):=by
 have e1:ab (S*D')=ab S*D':=ab_mul S h'.1
 have e2:ab (S'*D)=ab S'*D:=ab_mul S' h.1
 have b1:=bl_mul (ab_nonneg S) (Int.le_of_lt h'.1)
 have b2:=bl_mul (ab_nonneg S') (Int.le_of_lt h.1)
 have b3:=bl_mul (Int.le_of_lt h.1) (Int.le_of_lt h'.1)
 have hh:=h.2
 have hh':=h'.2
 have n1:0≤ab S*D':=Int.mul_nonneg (ab_nonneg S) (Int.le_of_lt h'.1)
 have n2:0≤ab S'*D:=Int.mul_nonneg (ab_nonneg S') (Int.le_of_lt h.1)
 have b4:=bl_add n1 n2 (m:=n+m) (by omega) (by omega)
 have a:=ab_add (S*D') (S'*D)
 rw [e1,e2] at a
 have:=bl_mono a
 exact ⟨Int.mul_pos h.1 h'.1,by omega,by omega⟩
theorem Fb_mul {n m S D S' D':Int} (h:Fb n S D) (h':Fb m S' D'):Fb (n+m) (S*S') (D*D'):=by
 have b1:=bl_mul (ab_nonneg S) (ab_nonneg S')
 have b3:=bl_mul (Int.le_of_lt h.1) (Int.le_of_lt h'.1)
 have hh:=h.2
 have hh':=h'.2
 refine ⟨Int.mul_pos h.1 h'.1, ?_,by omega⟩
 rw [ab_prod]
 omega
theorem sgI_mul (s s':Bool) (x y:Int):sgI s x*sgI s' y=sgI (s !=s') (x*y):=by
 unfold sgI
 cases s<;>cases s'<;>simp [Int.neg_mul,Int.mul_neg]
theorem rat_Mul_B {S D S' D':Int} (h:FitB S D) (h':FitB S' D'):Ev (fun k=>rat_Mul.f k (Rq S D).1 (Rq S D).2.1 (Rq S D).2.2 (Rq S' D').1 (Rq S' D').2.1 (Rq S' D').2.2) (Rq (S*S') (D*D')):=by
 obtain ⟨N,E,h1,h2,h3,h4,h5,h6,h7⟩:=Rq_fitB h
 obtain ⟨N',E',k1,k2,k3,k4,k5,k6,k7⟩:=Rq_fitB h'
 rw [h1,k1]
 dsimp only
 have lN:=dg_len_bl N
 have lE:=dg_len_bl E
 have lN':=dg_len_bl N'
 have lE':=dg_len_bl E'
 have R1:=gcd_Reduce_c (a:=dg N) (b:=dg E') (Wl_dg (by omega)) (Wl_dg (by omega)) (by omega) (by omega)
 have R2:=gcd_Reduce_c (a:=dg N') (b:=dg E) (Wl_dg (by omega)) (Wl_dg (by omega)) (by omega) (by omega)
 rw [nv_dg h2,nv_dg (Int.le_of_lt k3)] at R1
 rw [nv_dg k2,nv_dg (Int.le_of_lt h3)] at R2
 have g1:=gc_le h2 k3
 have g2:=gc_le k2 h3
 have s1:=gc_split h2 (Int.le_of_lt k3)
 have s2:=gc_split k2 (Int.le_of_lt h3)
 have p1:=gc_pos (a:=N) (b:=E') (.inr k3)
 have p2:=gc_pos (a:=N') (b:=E) (.inr h3)
 have dd:0<D*D':=Int.mul_pos h.1 h'.1
 generalize N/gc N E'=n1 at *
 generalize E'/gc N E'=e1 at *
 generalize N'/gc N' E=n2 at *
 generalize E/gc N' E=e2 at *
 have m1:=bl_mono g1.1
 have m2:=bl_mono g1.2.1
 have m3:=bl_mono g2.1
 have m4:=bl_mono g2.2.1
 have M1:=prod_Mul_dg (x:=n1) (y:=n2) g1.2.2.2 g2.2.2.2 (by omega) (by omega)
 have M2:=prod_Mul_dg (x:=e2) (y:=e1) (Int.le_of_lt g2.2.2.1) (Int.le_of_lt g1.2.2.1) (by omega) (by omega)
 have b1:=bl_mul g1.2.2.2 g2.2.2.2
 have b2:=bl_mul (Int.le_of_lt g2.2.2.1) (Int.le_of_lt g1.2.2.1)
 have d0:0<e2*e1:=Int.mul_pos g2.2.2.1 g1.2.2.1
 have n0:0≤n1*n2:=Int.mul_nonneg g1.2.2.2 g2.2.2.2
 refine Ev.bind (rat_safe_c k3 (by omega)) (Ev.bind R1 (Ev.bind (rat_safe_c h3 (by omega)) (Ev.bind R2 (Ev.bind M1 (Ev.bind M2 (Ev.bind (lowest_dg _ n0 d0 (by omega) (by omega)) (Ev.same ?_)))))))
 have e:Rq (sgI (decide (S<0) !=decide (S'<0)) (n1*n2)) (e2*e1)=Rq (S*S') (D*D'):=by
  refine Rq_eq d0 dd ?_
  generalize gc N E'=g at *
  generalize gc N' E=g' at *
  have q:0<g*g':=Int.mul_pos p1 p2
  refine Int.eq_of_mul_eq_mul_right (show g*g'≠0 by omega) ?_
  rw [← sgI_mul]
  have t1:sgI (decide (S<0)) N=sgI (decide (S<0)) n1*g:=by rw [← s1.1];unfold sgI;cases decide (S<0)<;>simp [Int.neg_mul]
  have t2:sgI (decide (S'<0)) N'=sgI (decide (S'<0)) n2*g':=by rw [← s2.1];unfold sgI;cases decide (S'<0)<;>simp [Int.neg_mul]
  rw [t1,← s2.2] at h6
  rw [t2,← s1.2] at k6
  generalize sgI (decide (S<0)) n1=σ at *
  generalize sgI (decide (S'<0)) n2=σ' at *
  have a1:σ*σ'*(D*D')*(g*g')=(σ*g*D)*(σ'*g'*D'):=by grind
  have a2:S*S'*(e2*e1)*(g*g')=(S*(e2*g'))*(S'*(e1*g)):=by grind
  rw [a1,a2,h6,k6]
 rw [← e]
theorem rat_Mul_c {S D S' D':Int} (h:Fit S D) (h':Fit S' D'):Ev (fun k=>rat_Mul.f k (Rq S D).1 (Rq S D).2.1 (Rq S D).2.2 (Rq S' D').1 (Rq S' D').2.1 (Rq S' D').2.2) (Rq (S*S') (D*D')):=rat_Mul_B h.big h'.big
def IS (S D:Int):Int:=sgI (decide (S<0)) D
theorem Fb_inv {n S D:Int} (h:Fb n S D) (hS:S≠0):Fb n (IS S D) (ab S):=by
 have:=ab_nonneg S
 have h1:ab S≠0:=fun k=>hS (ab_zero.1 k)
 have:ab (IS S D)=D:=by
  have:=h.1
  unfold IS ab sgI
  split<;>split<;>omega
 exact ⟨by omega,by rw [this];exact h.2.2,h.2.1⟩
theorem Fit_inv {S D:Int} (h:Fit S D) (hS:S≠0):Fit (IS S D) (ab S):=by
 have:=Fb_inv (n:=14000) (S:=S) (D:=D) ⟨h.1,h.2.1,h.2.2⟩ hS
 exact ⟨this.1,this.2.1,this.2.2⟩
theorem rat_Inv_c {S D:Int} (h:Fit S D):Ev (fun k=>rat_Inv.f k (Rq S D).1 (Rq S D).2.1 (Rq S D).2.2) (if S=0 then (false,[],[],4) else ((Rq (IS S D) (ab S)).1,(Rq (IS S D) (ab S)).2.1,(Rq (IS S D) (ab S)).2.2,0)):=by
 obtain ⟨N,E,h1,h2,h3,h4,h5,h6,h7,h8⟩:=Rq_spec S h.1
 have b1:=bl_mono h4
 have b2:=bl_mono h5
 have hh:=h.2
 rw [h1]
 dsimp only
 have B:=nat_Bits_c (l:=dg N) (Wl_dg (by omega))
 rw [nv_dg h2] at B
 refine Ev.bind B ?_
 by_cases hz:S=0
 · rw [if_pos hz]
   exact Ev.ifp (by rw [h7.2 hz];rfl) (Ev.same rfl)
 · rw [if_neg hz]
   have hN:0<N:=by
    have:N≠0:=fun k=>hz (h7.1 k)
    omega
   have:=bl_pos hN
   refine Ev.ifn (by omega) (Ev.bind (Trim_dg (Int.le_of_lt h3) (by omega)) (Ev.bind (Trim_dg h2 (by omega)) (Ev.same ?_)))
   have e:Rq (IS S D) (ab S)=(decide (S<0),dg E,dg N):=by
    have a0:0<ab S:=by
     have:=ab_nonneg S
     have:ab S≠0:=fun k=>hz (ab_zero.1 k)
     omega
    have e1:Rq (IS S D) (ab S)=Rq (sgI (decide (S<0)) E) N:=by
     refine Rq_eq a0 hN ?_
     unfold IS sgI
     cases decide (S<0)
     · simp only [Bool.false_eq_true,if_false];rw [Int.mul_comm,h6,Int.mul_comm]
     · simp only [if_true];rw [Int.neg_mul,Int.neg_mul,Int.mul_comm,h6,Int.mul_comm]
    rw [e1,Rq_of _ h3,gc_comm,h8,Int.ediv_one,Int.ediv_one]
   rw [e]
theorem rat_Div_c {S D S' D':Int} (h:Fit S D) (h':Fit S' D'):Ev (fun k=>rat_Div.f k (Rq S D).1 (Rq S D).2.1 (Rq S D).2.2 (Rq S' D').1 (Rq S' D').2.1 (Rq S' D').2.2) (if S'=0 then (false,[],[],4) else ((Rq (S*IS S' D') (D*ab S')).1,(Rq (S*IS S' D') (D*ab S')).2.1,(Rq (S*IS S' D') (D*ab S')).2.2,0)):=by
 refine Ev.bind (rat_Inv_c h') ?_
 by_cases hz:S'=0
 · rw [if_pos hz,if_pos hz]
   exact Ev.ifn (by decide) (Ev.same rfl)
 · rw [if_neg hz,if_neg hz]
   exact Ev.ifp rfl (Ev.bind (rat_Mul_c h (Fit_inv h' hz)) (Ev.same rfl))
theorem ref07_Mul_c {S D S' D':Int} (h:Fit S D) (h':Fit S' D'):Ev (fun k=>gr07_Mul.f k (Rq S D).1 (Rq S D).2.1 (Rq S D).2.2 (Rq S' D').1 (Rq S' D').2.1 (Rq S' D').2.2) (Rq (S*S') (D*D')):=by
 obtain ⟨N,E,h1,h2,h3,h4,h5,h6,h7⟩:=Rq_fit h
 obtain ⟨N',E',k1,k2,k3,k4,k5,k6,k7⟩:=Rq_fit h'
 rw [h1,k1]
 dsimp only
 have lN:=dg_len_bl N
 have lE:=dg_len_bl E
 have lN':=dg_len_bl N'
 have lE':=dg_len_bl E'
 have M1:=ref03_Mul_c (a:=dg N) (b:=dg N') (Wl_dg (by omega)) (Wl_dg (by omega)) (by omega) (by omega)
 have M2:=ref03_Mul_c (a:=dg E) (b:=dg E') (Wl_dg (by omega)) (Wl_dg (by omega)) (by omega) (by omega)
 rw [nv_dg h2,nv_dg k2] at M1
 rw [nv_dg (Int.le_of_lt h3),nv_dg (Int.le_of_lt k3)] at M2
 have b1:=bl_mul h2 k2
 have b2:=bl_mul (Int.le_of_lt h3) (Int.le_of_lt k3)
 have d0:0<E*E':=Int.mul_pos h3 k3
 have n0:0≤N*N':=Int.mul_nonneg h2 k2
 have dd:0<D*D':=Int.mul_pos h.1 h'.1
 refine Ev.bind M1 (Ev.bind M2 (Ev.bind (make_dg _ n0 d0 (by omega) (by omega)) (Ev.same ?_)))
 have e:Rq (sgI (decide (S<0) !=decide (S'<0)) (N*N')) (E*E')=Rq (S*S') (D*D'):=by
  refine Rq_eq d0 dd ?_
  rw [← sgI_mul]
  generalize sgI (decide (S<0)) N=σ at *
  generalize sgI (decide (S'<0)) N'=σ' at *
  have a1:σ*σ'*(D*D')=(σ*D)*(σ'*D'):=by grind
  have a2:S*S'*(E*E')=(S*E)*(S'*E'):=by grind
  rw [a1,a2,h6,k6]
 rw [← e]
theorem ref07_Div_c {S D S' D':Int} (h:Fit S D) (h':Fit S' D') (hz:S'≠0):Ev (fun k=>gr07_Div.f k (Rq S D).1 (Rq S D).2.1 (Rq S D).2.2 (Rq S' D').1 (Rq S' D').2.1 (Rq S' D').2.2) (Rq (S*IS S' D') (D*ab S')):=by
 obtain ⟨N,E,h1,h2,h3,h4,h5,h6,h7⟩:=Rq_fit h
 obtain ⟨N',E',k1,k2,k3,k4,k5,k6,k7⟩:=Rq_fit h'
 have kN:0<N':=by
  have:N'≠0:=fun k=>hz (k7.1 k)
  omega
 rw [h1,k1]
 dsimp only
 have lN:=dg_len_bl N
 have lE:=dg_len_bl E
 have lN':=dg_len_bl N'
 have lE':=dg_len_bl E'
 have M1:=ref03_Mul_c (a:=dg N) (b:=dg E') (Wl_dg (by omega)) (Wl_dg (by omega)) (by omega) (by omega)
 have M2:=ref03_Mul_c (a:=dg E) (b:=dg N') (Wl_dg (by omega)) (Wl_dg (by omega)) (by omega) (by omega)
 rw [nv_dg h2,nv_dg (Int.le_of_lt k3)] at M1
 rw [nv_dg (Int.le_of_lt h3),nv_dg k2] at M2
 have b1:=bl_mul h2 (Int.le_of_lt k3)
 have b2:=bl_mul (Int.le_of_lt h3) k2
 have d0:0<E*N':=Int.mul_pos h3 kN
 have n0:0≤N*E':=Int.mul_nonneg h2 (Int.le_of_lt k3)
 have a0:0<ab S':=by
  have:=ab_nonneg S'
  have:ab S'≠0:=fun k=>hz (ab_zero.1 k)
  omega
 have dd:0<D*ab S':=Int.mul_pos h.1 a0
 refine Ev.bind M1 (Ev.bind M2 (Ev.bind (make_dg _ n0 d0 (by omega) (by omega)) (Ev.same ?_)))
 have e:Rq (sgI (decide (S<0) !=decide (S'<0)) (N*E')) (E*N')=Rq (S*IS S' D') (D*ab S'):=by
  refine Rq_eq d0 dd ?_
  rw [← sgI_mul]
  unfold IS
  have q:sgI (decide (S'<0)) E'*ab S'=sgI (decide (S'<0)) D'*N':=by
   have e:ab S'=sgI (decide (S'<0)) S':=by
    unfold ab sgI
    by_cases k:S'<0
    · rw [if_pos k,if_pos (decide_eq_true k)]
    · rw [if_neg k,if_neg (by rw [decide_eq_false k];decide)]
   rw [e,sgI_mul,bne_self_eq_false]
   unfold sgI at k6 ⊢
   revert k6
   cases decide (S'<0)
   · simp only [Bool.false_eq_true,if_false];intro k6;rw [Int.mul_comm,← k6,Int.mul_comm]
   · simp only [if_true,Bool.false_eq_true,if_false];intro k6;rw [Int.neg_mul] at k6;rw [Int.neg_mul,Int.mul_comm D' N',Int.mul_comm E' S',← k6]
  generalize sgI (decide (S<0)) N=σ at *
  generalize sgI (decide (S'<0)) E'=σ' at *
  generalize sgI (decide (S'<0)) D'=δ at *
  have a1:σ*σ'*(D*ab S')=(σ*D)*(σ'*ab S'):=by grind
  have a2:S*δ*(E*N')=(S*E)*(δ*N'):=by grind
  rw [a1,a2,h6,q]
 rw [← e]
theorem ref07_Zero_c {S D:Int} (hD:0<D):gr07_Zero.f (Rq S D).1 (Rq S D).2.1 (Rq S D).2.2=some (decide (S=0)):=by
 obtain ⟨N,E,h1,h2,h3,h4,h5,h6,h7,h8⟩:=Rq_spec S hD
 rw [h1]
 unfold gr07_Zero.f
 show some _=some _
 congr 1
 have:((dg N).length:Int)=0↔S=0:=⟨fun k=>h7.1 ((dg_len_zero h2).1 (by omega)),fun k=>by rw [h7.2 k];rfl⟩
 by_cases hz:S=0
 · rw [decide_eq_true hz]
   simpa using this.2 hz
 · rw [decide_eq_false hz]
   exact beq_eq_false_iff_ne.2 (fun k=>hz (this.1 k))
theorem same_Rq {S D S' D':Int} (h:Fit S D):Ev (fun k=>rat_Same.f k (Rq S D).1 (Rq S D).2.1 (Rq S D).2.2 (Rq S' D').1 (Rq S' D').2.1 (Rq S' D').2.2) (decide (Rq S D=Rq S' D')):=by
 have l:=Rq_len h
 exact rat_Same_c (by omega) (by omega)
section
abbrev R3:=Bool × List Int × List Int
def en (x:Rat):R3:=Rq x.num x.den
theorem den_pos (x:Rat):(0:Int)<x.den:=by have:=x.den_nz;omega
theorem num_den_cross (S:Int) {D:Int} (hD:0<D):(Rat.divInt S D).num*D=S*(Rat.divInt S D).den:=by
 have e:=Rat.num_divInt_den (Rat.divInt S D)
 exact (Rat.divInt_eq_divInt_iff (by have:=den_pos (Rat.divInt S D);omega) (by omega)).1 e
theorem en_divInt (S:Int) {D:Int} (hD:0<D):en (Rat.divInt S D)=Rq S D:=Rq_eq (den_pos _) hD (num_den_cross S hD)
theorem divInt_self (x:Rat):Rat.divInt x.num x.den=x:=Rat.num_divInt_den x
theorem en_inj {x y:Rat} (h:en x=en y):x=y:=Rat.eq_iff_mul_eq_mul.2 (Rq_inj (den_pos x) (den_pos y) h)
def Bd (n:Int) (x:Rat):Prop:=Fb n x.num x.den
theorem Bd.mono {n m:Int} {x:Rat} (h:Bd n x) (hm:n≤m):Bd m x:=⟨h.1,Int.le_trans h.2.1 hm,Int.le_trans h.2.2 hm⟩
theorem Bd_fit {n:Int} {x:Rat} (h:Bd n x) (hn:n≤14000):Fit x.num x.den:=Fb_fit h hn
theorem gc_num_den (x:Rat):gc (ab x.num) x.den=1:=by
 have h:=x.reduced
 unfold gc
 have e:(ab x.num).toNat=x.num.natAbs:=by unfold ab;split<;>omega
 rw [e,Int.toNat_natCast]
 exact_mod_cast h
theorem Bd_divInt {n S D:Int} (h:Fb n S D):Bd n (Rat.divInt S D):=by
 have c:=num_den_cross S h.1
 obtain ⟨N,E,h1,h2,h3,h4,h5,h6,h7,h8⟩:=Rq_spec S h.1
 have hx:=den_pos (Rat.divInt S D)
 generalize Rat.divInt S D=x at *
 have g:=gc_num_den x
 have e:Rq x.num x.den=Rq S D:=Rq_eq hx h.1 c
 obtain ⟨N',E',k1,k2,k3,k4,k5,k6,k7,k8⟩:=Rq_spec x.num hx
 rw [e,h1] at k1
 simp only [Prod.mk.injEq] at k1
 obtain ⟨_,e2,e3⟩:=k1
 have e2:=dg_inj h2 k2 e2
 have e3:=dg_inj (Int.le_of_lt h3) (Int.le_of_lt k3) e3
 obtain ⟨a1,a2⟩:ab x.num=N'∧(x.den:Int)=E':=by
  by_cases hz:x.num=0
  · have:(x.den:Int)=1:=by
     rw [hz,show ab 0=0 from rfl,gc_comm,gc_zero (by omega)] at g
     exact g
    have n0:N'=0:=k7.2 hz
    refine ⟨by rw [hz,n0];rfl,by omega⟩
  · have u1:Rq x.num x.den=(decide (x.num<0),dg (ab x.num/gc (ab x.num) x.den),dg ((x.den:Int)/gc (ab x.num) x.den)):=by unfold Rq;rw [if_neg hz]
    rw [g,Int.ediv_one,Int.ediv_one,e,h1] at u1
    simp only [Prod.mk.injEq] at u1
    exact ⟨by rw [← e2];exact (dg_inj h2 (ab_nonneg _) u1.2.1).symm,by rw [← e3];exact (dg_inj (Int.le_of_lt h3) (Int.le_of_lt hx) u1.2.2).symm⟩
 have b1:=bl_mono h4
 have b2:=bl_mono h5
 have hh:=h.2
 exact ⟨hx,by rw [a1,← e2];omega,by rw [a2,← e3];omega⟩
theorem add_divInt (x y:Rat):x+y=Rat.divInt (x.num*y.den+y.num*x.den) (x.den*y.den):=by
 conv=>lhs;rw [← divInt_self x,← divInt_self y]
 exact Rat.divInt_add_divInt _ _ (by have:=den_pos x;omega) (by have:=den_pos y;omega)
theorem sub_divInt (x y:Rat):x-y=Rat.divInt (x.num*y.den-y.num*x.den) (x.den*y.den):=by
 conv=>lhs;rw [← divInt_self x,← divInt_self y]
 exact Rat.divInt_sub_divInt _ _ (by have:=den_pos x;omega) (by have:=den_pos y;omega)
theorem mul_divInt (x y:Rat):x*y=Rat.divInt (x.num*y.num) (x.den*y.den):=by
 conv=>lhs;rw [← divInt_self x,← divInt_self y]
 exact Rat.divInt_mul_divInt ..
theorem mul_den_pos (x y:Rat):(0:Int)<(x.den:Int)*y.den:=Int.mul_pos (den_pos x) (den_pos y)
theorem num_zero {x:Rat} :x.num=0↔x=0:=Rat.num_eq_zero
theorem ab_pos {x:Int} (h:x≠0):0<ab x:=by have:=ab_nonneg x;have:= @ab_zero x;omega
theorem inv_divInt (y:Rat) (hy:y≠0):y⁻¹ =Rat.divInt (IS y.num y.den) (ab y.num):=by
 conv=>lhs;rw [← divInt_self y]
 rw [Rat.inv_divInt]
 have hz:y.num≠0:=fun k=>hy (num_zero.1 k)
 unfold IS sgI ab
 by_cases hs:y.num<0
 · rw [decide_eq_true hs,if_pos rfl,if_pos hs,Rat.neg_divInt_neg]
 · rw [decide_eq_false hs,if_neg (by decide),if_neg hs]
theorem div_divInt (x y:Rat) (hy:y≠0):x/y=Rat.divInt (x.num*IS y.num y.den) (x.den*ab y.num):=by
 rw [Rat.div_def,inv_divInt y hy]
 conv=>lhs;rw [← divInt_self x]
 exact Rat.divInt_mul_divInt ..
theorem Bd_neg {n:Int} {x:Rat} (h:Bd n x):Bd n (-x):=Fb_neg h
theorem Bd_add {n m:Int} {x y:Rat} (h:Bd n x) (h':Bd m y):Bd (n+m+1) (x+y):=by
 rw [add_divInt]
 exact Bd_divInt (Fb_add h h')
theorem Bd_sub {n m:Int} {x y:Rat} (h:Bd n x) (h':Bd m y):Bd (n+m+1) (x-y):=by
 rw [Rat.sub_eq_add_neg]
 exact Bd_add h (Bd_neg h')
theorem Bd_mul {n m:Int} {x y:Rat} (h:Bd n x) (h':Bd m y):Bd (n+m) (x*y):=by
 rw [mul_divInt]
 exact Bd_divInt (Fb_mul h h')
theorem Bd_div {n m:Int} {x y:Rat} (h:Bd n x) (h':Bd m y) (hy:y≠0):Bd (n+m) (x/y):=by
 rw [div_divInt x y hy]
 exact Bd_divInt (Fb_mul h (Fb_inv h' (fun k=>hy (num_zero.1 k))))
theorem Bd_zero {n:Int} (h:1≤n):Bd n 0:=⟨by decide,by show bl 0≤n;rw [bl_zero];omega,by show bl 1≤n;have:bl 1=1:=by decide
                                                                                        omega⟩

variable {x y:Rat} {n m:Int}
theorem rat_Neg_e (hx:Bd n x) (hn:n≤14000):Ev (fun k=>rat_Neg.f k (en x).1 (en x).2.1 (en x).2.2) (en (-x)):=rat_Neg_c (Bd_fit hx hn)
theorem ref07_Neg_e (hx:Bd n x) (hn:n≤14000):Ev (fun k=>gr07_Neg.f k (en x).1 (en x).2.1 (en x).2.2) (en (-x)):=ref07_Neg_c (Bd_fit hx hn)
theorem en_add (x y:Rat):Rq (x.num*y.den+y.num*x.den) (x.den*y.den)=en (x+y):=by rw [add_divInt,en_divInt _ (mul_den_pos x y)]
theorem en_sub (x y:Rat):Rq (x.num*y.den-y.num*x.den) (x.den*y.den)=en (x-y):=by rw [sub_divInt,en_divInt _ (mul_den_pos x y)]
theorem en_mul (x y:Rat):Rq (x.num*y.num) (x.den*y.den)=en (x*y):=by rw [mul_divInt,en_divInt _ (mul_den_pos x y)]
theorem en_div (x y:Rat) (hy:y≠0):Rq (x.num*IS y.num y.den) (x.den*ab y.num)=en (x/y):=by
 rw [div_divInt x y hy,en_divInt]
 exact Int.mul_pos (den_pos x) (ab_pos fun k=>hy (num_zero.1 k))
theorem rat_Add_e (hx:Bd n x) (hy:Bd m y) (hn:n≤14000) (hm:m≤14000):Ev (fun k=>rat_Add.f k (en x).1 (en x).2.1 (en x).2.2 (en y).1 (en y).2.1 (en y).2.2) (en (x+y)):=Ev.eqr (rat_Add_c (Bd_fit hx hn) (Bd_fit hy hm)) (en_add x y)
theorem ref07_Add_e (hx:Bd n x) (hy:Bd m y) (hn:n≤14000) (hm:m≤14000):Ev (fun k=>gr07_Add.f k (en x).1 (en x).2.1 (en x).2.2 (en y).1 (en y).2.1 (en y).2.2) (en (x+y)):=Ev.eqr (ref07_Add_c (Bd_fit hx hn) (Bd_fit hy hm)) (en_add x y)
theorem rat_Sub_e (hx:Bd n x) (hy:Bd m y) (hn:n≤14000) (hm:m≤14000):Ev (fun k=>rat_Sub.f k (en x).1 (en x).2.1 (en x).2.2 (en y).1 (en y).2.1 (en y).2.2) (en (x-y)):=Ev.eqr (rat_Sub_c (Bd_fit hx hn) (Bd_fit hy hm)) (en_sub x y)
theorem ref07_Sub_e (hx:Bd n x) (hy:Bd m y) (hn:n≤14000) (hm:m≤14000):Ev (fun k=>gr07_Sub.f k (en x).1 (en x).2.1 (en x).2.2 (en y).1 (en y).2.1 (en y).2.2) (en (x-y)):=Ev.eqr (ref07_Sub_c (Bd_fit hx hn) (Bd_fit hy hm)) (en_sub x y)
theorem rat_Mul_e (hx:Bd n x) (hy:Bd m y) (hn:n≤14000) (hm:m≤14000):Ev (fun k=>rat_Mul.f k (en x).1 (en x).2.1 (en x).2.2 (en y).1 (en y).2.1 (en y).2.2) (en (x*y)):=Ev.eqr (rat_Mul_c (Bd_fit hx hn) (Bd_fit hy hm)) (en_mul x y)
theorem ref07_Mul_e (hx:Bd n x) (hy:Bd m y) (hn:n≤14000) (hm:m≤14000):Ev (fun k=>gr07_Mul.f k (en x).1 (en x).2.1 (en x).2.2 (en y).1 (en y).2.1 (en y).2.2) (en (x*y)):=Ev.eqr (ref07_Mul_c (Bd_fit hx hn) (Bd_fit hy hm)) (en_mul x y)
def qo (x y:Rat):Bool × List Int × List Int × Int:=if y=0 then (false,[],[],4) else ((en (x/y)).1,(en (x/y)).2.1,(en (x/y)).2.2,0)
theorem rat_Div_e (hx:Bd n x) (hy:Bd m y) (hn:n≤14000) (hm:m≤14000):Ev (fun k=>rat_Div.f k (en x).1 (en x).2.1 (en x).2.2 (en y).1 (en y).2.1 (en y).2.2) (qo x y):=by
 refine Ev.eqr (rat_Div_c (Bd_fit hx hn) (Bd_fit hy hm)) ?_
 unfold qo
 by_cases hz:y=0
 · rw [if_pos (num_zero.2 hz),if_pos hz]
 · rw [if_neg (fun k=>hz (num_zero.1 k)),if_neg hz,en_div x y hz]
theorem ref07_Div_e (hx:Bd n x) (hy:Bd m y) (hn:n≤14000) (hm:m≤14000) (hz:y≠0):Ev (fun k=>gr07_Div.f k (en x).1 (en x).2.1 (en x).2.2 (en y).1 (en y).2.1 (en y).2.2) (en (x/y)):=Ev.eqr (ref07_Div_c (Bd_fit hx hn) (Bd_fit hy hm) (fun k=>hz (num_zero.1 k))) (en_div x y hz)
theorem ref07_Zero_e (x:Rat):gr07_Zero.f (en x).1 (en x).2.1 (en x).2.2=some (decide (x=0)):=by
 have h:=ref07_Zero_c (S:=x.num) (den_pos x)
 rw [show decide (x.num=0)=decide (x=0) from decide_eq_decide.2 num_zero] at h
 exact h
theorem rat_Same_e (x y:Rat) (hx:Bd n x) (hn:n≤14000):Ev (fun k=>rat_Same.f k (en x).1 (en x).2.1 (en x).2.2 (en y).1 (en y).2.1 (en y).2.2) (decide (x=y)):=by
 refine Ev.eqr (same_Rq (Bd_fit hx hn)) (decide_eq_decide.2 ⟨fun k=>en_inj k,fun k=>by rw [k]⟩)
def rb (x:Rat):Int:=mx (bl (ab x.num)) (bl x.den)
theorem en_parts (x:Rat):en x=(decide (x.num<0),dg (ab x.num),dg x.den):=by
 unfold en Rq
 by_cases hz:x.num=0
 · have g:=gc_num_den x
   rw [hz,show ab 0=0 from rfl,gc_comm,gc_zero (by have:=den_pos x;omega)] at g
   rw [if_pos hz,hz,g,show ab 0=0 from rfl,dg_zero,dg_one]
   rfl
 · rw [if_neg hz,gc_num_den,Int.ediv_one,Int.ediv_one]
theorem rb_Bd {n:Int} (h:rb x≤n):Bd n x:=by
 unfold rb mx at h
 exact ⟨den_pos x,by split at h<;>omega,by split at h<;>omega⟩
theorem power_Bits_e (hx:Bd n x) (hn:n≤60000000):Ev (fun k=>power_Bits.f k (en x).1 (en x).2.1 (en x).2.2) (rb x):=by
 have hh:=hx.2
 have hd:=den_pos x
 have h0:=ab_nonneg x.num
 have A:=nat_Bits_c (l:=dg (ab x.num)) (Wl_dg (by omega))
 have B:=nat_Bits_c (l:=dg x.den) (Wl_dg (by omega))
 rw [nv_dg h0] at A
 rw [nv_dg (Int.le_of_lt hd)] at B
 rw [en_parts]
 exact Ev.bind A (Ev.bind B (Ev.same rfl))
theorem ref08_Bits_e (hx:Bd n x) (hn:n≤60000000):Ev (fun k=>gr08_Bits.f k (en x).1 (en x).2.1 (en x).2.2) (rb x):=by
 have hh:=hx.2
 have hd:=den_pos x
 have h0:=ab_nonneg x.num
 have A:=ref02_Bits_c (l:=dg (ab x.num)) (Wl_dg (by omega))
 have B:=ref02_Bits_c (l:=dg x.den) (Wl_dg (by omega))
 rw [nv_dg h0] at A
 rw [nv_dg (Int.le_of_lt hd)] at B
 rw [en_parts]
 exact Ev.bind A (Ev.bind B (Ev.same rfl))

def de (q:R3):Rat:=Rat.divInt (sgI q.1 (nv q.2.1)) (nv q.2.2)
def RV (q:R3):Prop:=RR q.1 q.2.1 q.2.2
theorem en_de {q:R3} (ha:Ws q.2.1) (hb:Ws q.2.2) (h:RV q):en (de q)=q:=by
 unfold de
 rw [en_divInt _ (RR_pos hb h)]
 exact RR_Rq ha hb h
theorem de_en (x:Rat):de (en x)=x:=by
 rw [en_parts]
 unfold de
 rw [nv_dg (ab_nonneg _),nv_dg (Int.le_of_lt (den_pos x))]
 have:sgI (decide (x.num<0)) (ab x.num)=x.num:=by
  unfold sgI ab
  by_cases h:x.num<0
  · rw [if_pos h,if_pos (decide_eq_true h)];omega
  · rw [if_neg h,if_neg (by rw [decide_eq_false h];decide)]
 rw [this,divInt_self]
theorem de_Bd {q:R3} (ha:Ws q.2.1) (hb:Ws q.2.2) (h:RV q) {n:Nat} (la:q.2.1.length≤n) (lb:q.2.2.length≤n):Bd (64*n) (de q):=by
 refine Bd_divInt ⟨RR_pos hb h, ?_, ?_⟩
 · have:=bl_nv ha
   have n0:=nv_nonneg ha
   have e:ab (sgI q.1 (nv q.2.1))=nv q.2.1:=by unfold ab sgI;split<;>split<;>omega
   rw [e]
   omega
 · have:=bl_nv hb
   omega
end
abbrev I6:=Int × Int × Int × Bool × List Int × List Int
def ari (op:Int):Int:=if op=1∨op=2 then 0 else if op=3∨(8≤op∧op≤10) then 1 else if 4≤op∧op≤7 then 2 else -1
theorem ari_cases (op:Int):(op=1∧ari op=0)∨(op=2∧ari op=0)∨(op=3∧ari op=1)∨(op=4∧ari op=2)∨(op=5∧ari op=2)∨(op=6∧ari op=2)∨(op=7∧ari op=2)∨(op=8∧ari op=1)∨(op=9∧ari op=1)∨(op=10∧ari op=1)∨((op<1∨10<op)∧ari op= -1):=by
 by_cases h1:op=1
 · subst h1;exact .inl ⟨rfl,by decide⟩
 by_cases h2:op=2
 · subst h2;exact .inr (.inl ⟨rfl,by decide⟩)
 by_cases h3:op=3
 · subst h3;exact .inr (.inr (.inl ⟨rfl,by decide⟩))
 by_cases h4:op=4
 · subst h4;exact .inr (.inr (.inr (.inl ⟨rfl,by decide⟩)))
 by_cases h5:op=5
 · subst h5;exact .inr (.inr (.inr (.inr (.inl ⟨rfl,by decide⟩))))
 by_cases h6:op=6
 · subst h6;exact .inr (.inr (.inr (.inr (.inr (.inl ⟨rfl,by decide⟩)))))
 by_cases h7:op=7
 · subst h7;exact .inr (.inr (.inr (.inr (.inr (.inr (.inl ⟨rfl,by decide⟩))))))
 by_cases h8:op=8
 · subst h8;exact .inr (.inr (.inr (.inr (.inr (.inr (.inr (.inl ⟨rfl,by decide⟩)))))))
 by_cases h9:op=9
 · subst h9;exact .inr (.inr (.inr (.inr (.inr (.inr (.inr (.inr (.inl ⟨rfl,by decide⟩))))))))
 by_cases h10:op=10
 · subst h10;exact .inr (.inr (.inr (.inr (.inr (.inr (.inr (.inr (.inr (.inl ⟨rfl,by decide⟩)))))))))
 have e:ari op= -1:=by
  unfold ari
  rw [if_neg (by omega),if_neg (by omega),if_neg (by omega)]
 exact .inr (.inr (.inr (.inr (.inr (.inr (.inr (.inr (.inr (.inr (⟨by omega,e⟩))))))))))
theorem line_Arity_c (op:Int):Ev (fun k=>line_Arity.f k op) (ari op):=by
 refine ⟨1,fun n hn=> ?_⟩
 obtain ⟨m,rfl⟩ : ∃ m,n=m+1:=⟨n-1,by omega⟩
 rcases ari_cases op with ⟨rfl,h⟩ | ⟨rfl,h⟩ | ⟨rfl,h⟩ | ⟨rfl,h⟩ | ⟨rfl,h⟩ | ⟨rfl,h⟩ | ⟨rfl,h⟩ | ⟨rfl,h⟩ | ⟨rfl,h⟩ | ⟨rfl,h⟩ | ⟨h1,h⟩
 case inr.inr.inr.inr.inr.inr.inr.inr.inr.inr =>
  show line_Arity.f (m+1) op=some (ari op)
  rw [h]
  unfold line_Arity.f
  rw [if_neg (by omega),if_neg (by omega),if_neg (by omega),if_neg (by omega),if_neg (by omega),if_neg (by omega),if_neg (by omega),if_neg (by omega),if_neg (by omega),if_neg (by omega)]
 all_goals simp [h,line_Arity.f,line_Arity.j4]
theorem ref15_Arity_c (op:Int):Ev (fun k=>gr15_Arity.f k op) (ari op):=by
 refine ⟨2,fun n hn=> ?_⟩
 obtain ⟨m,rfl⟩ : ∃ m,n=m+1+1:=⟨n-2,by omega⟩
 rcases ari_cases op with ⟨rfl,h⟩ | ⟨rfl,h⟩ | ⟨rfl,h⟩ | ⟨rfl,h⟩ | ⟨rfl,h⟩ | ⟨rfl,h⟩ | ⟨rfl,h⟩ | ⟨rfl,h⟩ | ⟨rfl,h⟩ | ⟨rfl,h⟩ | ⟨h1,h⟩
 case inr.inr.inr.inr.inr.inr.inr.inr.inr.inr =>
  show gr15_Arity.f (m+1+1) op=some (ari op)
  rw [h]
  unfold gr15_Arity.f
  have e2:(op==2)=false:=by rw [beq_eq_false_iff_ne];omega
  rw [if_neg (by omega),gr15_Arity.j0.eq_2,e2,if_neg (by decide),if_neg (by omega)]
  by_cases h8:op≥8
  · rw [if_pos h8,gr15_Arity.j1.eq_2,decide_eq_false (by omega),if_neg (by decide),if_pos (by omega),if_neg (by omega)]
  · rw [if_neg h8,gr15_Arity.j1.eq_2,if_neg (by decide),if_neg (by omega)]
 all_goals simp [h,gr15_Arity.f,gr15_Arity.j0,gr15_Arity.j1]
theorem ref15_Form_c (op:Int):gr15_Form.f op=some (decide (8≤op∧op≤10)):=by
 unfold gr15_Form.f
 by_cases h:op≥8
 · rw [if_pos h]
   congr 1
   exact decide_eq_decide.2 ⟨fun k=>⟨h,k⟩,fun k=>k.2⟩
 · rw [if_neg h,decide_eq_false (by omega)]

def NoNum (x:I6):Prop:=x.2.2.2.1=false∧x.2.2.2.2.1= []∧x.2.2.2.2.2= []
def FitsP (x:I6) (n:Int):Prop:=(x.1=2∧x.2.1=0∧x.2.2.1=0∧RV x.2.2.2)∨(x.1=1∧NoNum x∧0≤x.2.1∧x.2.1<65536∧x.2.2.1=0)∨(ari x.1=1∧NoNum x∧0≤x.2.1∧x.2.1<n∧x.2.2.1=0)∨(ari x.1=2∧NoNum x∧0≤x.2.1∧x.2.1<n∧0≤x.2.2.1∧x.2.2.1<n)
def SmI (x:I6):Prop:=Wl x.2.2.2.2.1∧Wl x.2.2.2.2.2∧x.2.2.2.2.1.length≤1000∧x.2.2.2.2.2.length≤1000
theorem line_none_c (x:I6) : ∃ r,line_none.f x.2.2.2.1 x.2.2.2.2.1 x.2.2.2.2.2=some r∧(r=true↔NoNum x):=by
 obtain ⟨op,a,b,s,p,q⟩:=x
 unfold line_none.f NoNum
 cases s
 · cases p
   · cases q
     · exact ⟨_,rfl,by simp⟩
     · refine ⟨_,rfl, ?_⟩
       simp
       omega
   · refine ⟨false, ?_,by simp⟩
     rw [if_neg Bool.false_ne_true,if_neg (by simp only [List.length_cons];omega)]
 · exact ⟨_,rfl,by simp⟩
theorem ref15_None_c (x:I6) (h:SmI x) : ∃ r,Ev (fun k=>gr15_None.f k x.2.2.2.1 x.2.2.2.2.1 x.2.2.2.2.2) r∧(r=true↔NoNum x):=by
 obtain ⟨op,a,b,s,p,q⟩:=x
 obtain ⟨h1,h2,h3,h4⟩:=h
 dsimp only at h3 h4
 refine ⟨_,Ev.bind (ref07_Same_c (s:=s) (s':=false) (a:=p) (b:=q) (a':= []) (b':= []) (by omega) (by omega)) (Ev.same rfl), ?_⟩
 rw [decide_eq_true_iff]
 simp only [Prod.mk.injEq]
 exact Iff.rfl
theorem line_fits_c {x:I6} (hx:SmI x) (n:Int) : ∃ r,Ev (fun k=>line_fits.f k x.1 x.2.1 x.2.2.1 x.2.2.2.1 x.2.2.2.2.1 x.2.2.2.2.2 n) r∧(r=true↔FitsP x n):=by
 obtain ⟨r1,h1,g1⟩:=line_none_c x
 obtain ⟨r2,h2,g2⟩:=rat_Right_c x.2.2.2.1 hx.1 hx.2.1 hx.2.2.1 hx.2.2.2
 have g2:r2=true↔RV x.2.2.2:=g2
 have A:=line_Arity_c x.1
 unfold FitsP
 rw [← g1,← g2]
 clear g1 g2 hx
 obtain ⟨op,a,b,s,p,q⟩:=x
 dsimp only at *
 have ac:=ari_cases op
 generalize ari op=y at *
 obtain ⟨K1,A⟩:=A
 obtain ⟨K2,h2⟩:=h2
 have A : ∀ k,K1≤k→line_Arity.f k op=some y:=A
 have h2 : ∀ k,K2≤k→rat_Right.f k s p q=some r2:=h2
 have E : ∀ k,K1+K2≤k→line_fits.f k op a b s p q n=some (decide ((op=2∧a=0∧b=0∧r2=true)∨(op=1∧r1=true∧0≤a∧a<65536∧b=0)∨(y=1∧r1=true∧0≤a∧a<n∧b=0)∨(y=2∧r1=true∧0≤a∧a<n∧0≤b∧b<n))):=by
  intro k hk
  unfold line_fits.f
  rw [A k (by omega),h1]
  dsimp only [Option.bind]
  rw [h2 k (by omega)]
  dsimp only
  cases r1<;>cases r2<;>simp only [Bool.false_eq_true,and_false,false_and,or_false,false_or,and_true,true_and]<;>(repeat' split)<;>first | rfl | (apply congrArg some;symm;first | (rw [decide_eq_true_iff];omega) | (rw [decide_eq_false_iff_not];omega))
 exact ⟨_,⟨K1+K2,E⟩,decide_eq_true_iff⟩
theorem ref15_Fits_c {x:I6} (hx:SmI x) (n:Int) : ∃ r,Ev (fun k=>gr15_Fits.f k x.1 x.2.1 x.2.2.1 x.2.2.2.1 x.2.2.2.2.1 x.2.2.2.2.2 n) r∧(r=true↔FitsP x n):=by
 obtain ⟨r1,h1,g1⟩:=ref15_None_c x hx
 obtain ⟨r2,h2,g2⟩:=ref07_Right_c x.2.2.2.1 hx.1 hx.2.1 hx.2.2.1 hx.2.2.2
 have g2:r2=true↔RV x.2.2.2:=g2
 have A:=ref15_Arity_c x.1
 unfold FitsP
 rw [← g1,← g2]
 clear g1 g2 hx
 obtain ⟨op,a,b,s,p,q⟩:=x
 dsimp only at *
 have ac:=ari_cases op
 generalize ari op=y at *
 obtain ⟨K1,A⟩:=A
 obtain ⟨K2,h2⟩:=h2
 obtain ⟨K3,h1⟩:=h1
 have A : ∀ k,K1≤k→gr15_Arity.f k op=some y:=A
 have h2 : ∀ k,K2≤k→gr07_Right.f k s p q=some r2:=h2
 have h1 : ∀ k,K3≤k→gr15_None.f k s p q=some r1:=h1
 have E : ∀ k,K1+K2+K3≤k→gr15_Fits.f k op a b s p q n=some (decide ((op=2∧a=0∧b=0∧r2=true)∨(op=1∧r1=true∧0≤a∧a<65536∧b=0)∨(y=1∧r1=true∧0≤a∧a<n∧b=0)∨(y=2∧r1=true∧0≤a∧a<n∧0≤b∧b<n))):=by
  intro k hk
  unfold gr15_Fits.f
  rw [A k (by omega),h1 k (by omega),h2 k (by omega)]
  dsimp only [Option.bind]
  have eb:(b==0)=decide (b=0):=rfl
  rw [eb]
  cases r1<;>cases r2<;>simp only [Bool.false_eq_true,and_false,false_and,or_false,false_or,and_true,true_and,if_true,if_false]<;>(repeat' split)<;>first | rfl | (apply congrArg some;symm;first | (rw [decide_eq_decide];omega) | (rw [decide_eq_true_iff];omega) | (rw [decide_eq_false_iff_not];omega))
 exact ⟨_,⟨K1+K2+K3,E⟩,decide_eq_true_iff⟩

def zI:I6:=(0,0,0,false,[],[])
theorem rd_I6 (l:List I6) (i:Nat):rd_iiibLL l (i:Int)=l.getD i zI:=by
 show l.getD ((i:Int)).toNat zI=_
 rw [Int.toNat_natCast]
theorem getD_of {α:Type} {l:List α} {d:α} {i:Nat} (h:i<l.length):l.getD i d=l[i]:=by
 rw [List.getD_eq_getElem?_getD,List.getElem?_eq_getElem h]
 rfl
def FitL (l:List I6):Prop:= ∀ i:Nat,i<l.length→FitsP (l.getD i zI) i
theorem all_from {P:Nat→Prop} {n i:Nat} (h:i<n):(∀ j,i≤j→j<n→P j)↔P i∧ ∀ j,i+1≤j→j<n→P j :=
 ⟨fun k=>⟨k i (by omega) h,fun j h1 h2=>k j (by omega) h2⟩,fun k j h1 h2=>by
   rcases (show j=i∨i+1≤j by omega) with rfl | h3
   · exact k.1
   · exact k.2 j h3 h2⟩
theorem line_Right_l {l:List I6} (hl:l.length≤65536) (hs : ∀ x∈l,SmI x) (d:Nat) : ∀ i:Nat,i+d=l.length→ ∃ r,Ev (fun k=>line_Right.l0 k l (l.length:Int) i) r∧(r=true↔ ∀ j:Nat,i≤j→j<l.length→FitsP (l.getD j zI) j):=by
 induction d with
 | zero =>
   intro i h
   refine ⟨true,Ev.step (fun k=>line_Right.l0.eq_2 ..) (Ev.ifn (by omega) (Ev.same rfl)), ?_⟩
   simp only [true_iff]
   intro j h1 h2
   omega
 | succ d ih =>
   intro i h
   obtain ⟨r1,h1,g1⟩:=line_fits_c (x:=l.getD i zI) (by rw [getD_of (by omega)];exact hs _ (List.getElem_mem _)) i
   obtain ⟨r2,h2,g2⟩:=ih (i+1) (by omega)
   have ew:wrap64 ((i:Int)+1)=((i+1:Nat):Int):=by rw [w64_id (by omega) (by omega)];omega
   refine ⟨r1&&r2,Ev.step (fun k=>line_Right.l0.eq_2 ..) (Ev.ifp (by omega) (Ev.ifp (by omega) (Ev.ifp (by omega) ?_))), ?_⟩
   · rw [rd_I6]
     refine Ev.bind h1 ?_
     cases r1
     · exact Ev.ifn (by decide) (Ev.same rfl)
     · refine Ev.ifp rfl ?_
       rw [ew]
       exact h2
   · rw [Bool.and_eq_true,g1,g2,all_from (show i<l.length by omega)]
theorem line_Right_c {l:List I6} (hl:l.length≤65536) (hs : ∀ x∈l,SmI x) : ∃ r,Ev (fun k=>line_Right.f k l) r∧(r=true↔FitL l):=by
 obtain ⟨r,h,g⟩:=line_Right_l hl hs l.length 0 (by omega)
 refine ⟨r,Ev.ifn (by omega) h, ?_⟩
 rw [g]
 exact ⟨fun k i hi=>k i (by omega) hi,fun k i _ hi=>k i hi⟩
theorem ref15_Right_l {l:List I6} (hl:l.length≤65536) (hs : ∀ x∈l,SmI x) (d:Nat) : ∀ i:Nat,i+d=l.length→ ∃ r,Ev (fun k=>gr15_Right.l0 k l (l.length:Int) i) r∧(r=true↔ ∀ j:Nat,i≤j→j<l.length→FitsP (l.getD j zI) j):=by
 induction d with
 | zero =>
   intro i h
   refine ⟨true,Ev.step (fun k=>gr15_Right.l0.eq_2 ..) (Ev.ifn (by omega) (Ev.same (by rw [decide_eq_true (by omega)]))), ?_⟩
   simp only [true_iff]
   intro j h1 h2
   omega
 | succ d ih =>
   intro i h
   obtain ⟨r1,h1,g1⟩:=ref15_Fits_c (x:=l.getD i zI) (by rw [getD_of (by omega)];exact hs _ (List.getElem_mem _)) i
   obtain ⟨r2,h2,g2⟩:=ih (i+1) (by omega)
   have ew:wrap64 ((i:Int)+1)=((i+1:Nat):Int):=by rw [w64_id (by omega) (by omega)];omega
   refine ⟨r1&&r2,Ev.step (fun k=>gr15_Right.l0.eq_2 ..) (Ev.ifp (by omega) (Ev.ifp (by omega) (Ev.ifp (by omega) ?_))), ?_⟩
   · rw [rd_I6]
     refine Ev.bind h1 ?_
     cases r1
     · exact Ev.ifn (by decide) (Ev.same rfl)
     · refine Ev.ifp rfl ?_
       rw [ew]
       exact h2
   · rw [Bool.and_eq_true,g1,g2,all_from (show i<l.length by omega)]
theorem ref15_Right_c {l:List I6} (hl:l.length≤65536) (hs : ∀ x∈l,SmI x) : ∃ r,Ev (fun k=>gr15_Right.f k l) r∧(r=true↔FitL l):=by
 obtain ⟨r,h,g⟩:=ref15_Right_l hl hs l.length 0 (by omega)
 refine ⟨r,h, ?_⟩
 rw [g]
 exact ⟨fun k i hi=>k i (by omega) hi,fun k i _ hi=>k i hi⟩

def zR:R3:=(false,[],[])
theorem rd_R3 (l:List R3) (i:Nat):rd_bLL l (i:Int)=l.getD i zR:=by
 show l.getD ((i:Int)).toNat zR=_
 rw [Int.toNat_natCast]
def SmR (q:R3):Prop:=Ws q.2.1∧Ws q.2.2∧q.2.1.length≤1000∧q.2.2.length≤1000
theorem evals_right_l {l:List R3} (hl:l.length≤1000000) (hs : ∀ x∈l,SmR x) (d:Nat) : ∀ i:Nat,i+d=l.length→ ∃ r,Ev (fun k=>evals_right.l0 k l (l.length:Int) i) r∧(r=true↔ ∀ j:Nat,i≤j→j<l.length→RV (l.getD j zR)):=by
 induction d with
 | zero =>
   intro i h
   refine ⟨true,Ev.step (fun k=>evals_right.l0.eq_2 ..) (Ev.ifn (by omega) (Ev.same rfl)), ?_⟩
   simp only [true_iff]
   intro j h1 h2
   omega
 | succ d ih =>
   intro i h
   have sm:SmR (l.getD i zR):=by rw [getD_of (by omega)];exact hs _ (List.getElem_mem _)
   obtain ⟨r1,h1,g1⟩:=rat_Right_c (l.getD i zR).1 ⟨sm.1,by have:=sm.2.2.1;omega⟩ ⟨sm.2.1,by have:=sm.2.2.2;omega⟩ sm.2.2.1 sm.2.2.2
   obtain ⟨r2,h2,g2⟩:=ih (i+1) (by omega)
   have ew:wrap64 ((i:Int)+1)=((i+1:Nat):Int):=by rw [w64_id (by omega) (by omega)];omega
   refine ⟨r1&&r2,Ev.step (fun k=>evals_right.l0.eq_2 ..) (Ev.ifp (by omega) (Ev.ifp (by omega) (Ev.ifp (by omega) ?_))), ?_⟩
   · rw [rd_R3]
     refine Ev.bind h1 ?_
     cases r1
     · exact Ev.ifn (by decide) (Ev.same rfl)
     · refine Ev.ifp rfl ?_
       rw [ew]
       exact h2
   · rw [Bool.and_eq_true,g1,g2,all_from (show i<l.length by omega)]
     exact Iff.rfl
theorem RVs_all {l:List R3} :(∀ j:Nat,0≤j→j<l.length→RV (l.getD j zR))↔ ∀ x∈l,RV x:=by
 constructor
 · intro k x hx
   obtain ⟨j,hj,rfl⟩:=List.getElem_of_mem hx
   rw [← getD_of (d:=zR) hj]
   exact k j (by omega) hj
 · intro k j _ hj
   rw [getD_of hj]
   exact k _ (List.getElem_mem _)
theorem evals_right_c {l:List R3} (hl:l.length≤1000000) (hs : ∀ x∈l,SmR x) : ∃ r,Ev (fun k=>evals_right.f k l) r∧(r=true↔ ∀ x∈l,RV x):=by
 obtain ⟨r,h,g⟩:=evals_right_l hl hs l.length 0 (by omega)
 exact ⟨r,h,g.trans RVs_all⟩
theorem ref16_Rats_l {l:List R3} (hl:l.length≤1000000) (hs : ∀ x∈l,SmR x) (d:Nat) : ∀ i:Nat,i+d=l.length→ ∃ r,Ev (fun k=>gr16_Rats.l0 k l (l.length:Int) i) r∧(r=true↔ ∀ j:Nat,i≤j→j<l.length→RV (l.getD j zR)):=by
 induction d with
 | zero =>
   intro i h
   refine ⟨true,Ev.step (fun k=>gr16_Rats.l0.eq_2 ..) (Ev.ifn (by omega) (Ev.same rfl)), ?_⟩
   simp only [true_iff]
   intro j h1 h2
   omega
 | succ d ih =>
   intro i h
   have sm:SmR (l.getD i zR):=by rw [getD_of (by omega)];exact hs _ (List.getElem_mem _)
   obtain ⟨r1,h1,g1⟩:=ref07_Right_c (l.getD i zR).1 ⟨sm.1,by have:=sm.2.2.1;omega⟩ ⟨sm.2.1,by have:=sm.2.2.2;omega⟩ sm.2.2.1 sm.2.2.2
   obtain ⟨r2,h2,g2⟩:=ih (i+1) (by omega)
   have ew:wrap64 ((i:Int)+1)=((i+1:Nat):Int):=by rw [w64_id (by omega) (by omega)];omega
   refine ⟨r1&&r2,Ev.step (fun k=>gr16_Rats.l0.eq_2 ..) (Ev.ifp (by omega) (Ev.ifp (by omega) (Ev.ifp (by omega) ?_))), ?_⟩
   · rw [rd_R3]
     refine Ev.bind h1 ?_
     cases r1
     · exact Ev.ifn (by decide) (Ev.same rfl)
     · refine Ev.ifp rfl ?_
       rw [ew]
       exact h2
   · rw [Bool.and_eq_true,g1,g2,all_from (show i<l.length by omega)]
     exact Iff.rfl
theorem ref16_Rats_c {l:List R3} (hl:l.length≤1000000) (hs : ∀ x∈l,SmR x) : ∃ r,Ev (fun k=>gr16_Rats.f k l) r∧(r=true↔ ∀ x∈l,RV x):=by
 obtain ⟨r,h,g⟩:=ref16_Rats_l hl hs l.length 0 (by omega)
 exact ⟨r,h,g.trans RVs_all⟩
def gq (l:List Rat) (i:Int):Rat:=l.getD i.toNat 0
theorem rd_en {l:List Rat} {a:Int} (h0:0≤a) (h1:a<l.length):rd_bLL (l.map en) a=en (gq l a):=by
 show (l.map en).getD a.toNat zR=en (l.getD a.toNat 0)
 rw [getD_of (by rw [List.length_map];omega),getD_of (by omega),List.getElem_map]
def BdL (n:Int) (l:List Rat):Prop:= ∀ x∈l,Bd n x
theorem gq_Bd {n:Int} {l:List Rat} {a:Int} (h:BdL n l) (h0:0≤a) (h1:a<l.length):Bd n (gq l a):=by
 unfold gq
 rw [getD_of (by omega)]
 exact h _ (List.getElem_mem _)
theorem BdL_snoc {n:Int} {l:List Rat} {x:Rat} (h:BdL n l) (hx:Bd n x):BdL n (l++ [x]):=by
 intro y hy
 rcases List.mem_append.1 hy with k | k
 · exact h y k
 · rw [List.mem_singleton.1 k];exact hx
theorem BdL.mono {n m:Int} {l:List Rat} (h:BdL n l) (hm:n≤m):BdL m l:=fun x hx=>(h x hx).mono hm
theorem BdL_nil (n:Int):BdL n []:=fun x hx=>absurd hx (by simp)
def ShI (x:I6):Prop:=Ws x.2.2.2.2.1∧Ws x.2.2.2.2.2∧x.2.2.2.2.1.length≤8∧x.2.2.2.2.2.length≤8
theorem ShI.sm {x:I6} (h:ShI x):SmI x:=⟨⟨h.1,by have:=h.2.2.1;omega⟩,⟨h.2.1,by have:=h.2.2.2;omega⟩,by have:=h.2.2.1;omega,by have:=h.2.2.2;omega⟩

def stp (x:I6) (out inn forms:List Rat) (used:Nat):Int × Rat × Nat :=
 if x.1=1 then (if x.2.1<inn.length then (0,gq inn x.2.1,used) else (11,0,used))
 else if x.1=2 then (0,de x.2.2.2,used)
 else if x.1=3 then (0,-(gq out x.2.1),used)
 else if x.1=4 then (0,gq out x.2.1+gq out x.2.2.1,used)
 else if x.1=5 then (0,gq out x.2.1-gq out x.2.2.1,used)
 else if x.1=6 then (0,gq out x.2.1*gq out x.2.2.1,used)
 else if x.1=7 then (if gq out x.2.2.1=0 then (4,0,used) else (0,gq out x.2.1/gq out x.2.2.1,used))
 else if used<forms.length then (0,gq forms used,used+1) else (6,0,used)
def exl (inn forms:List Rat):List I6→Nat→List Rat→Nat→List Rat × Int × Int
 | [],_,out,_=>(out,0,0)
 | x::l,i,out,used =>
   if (stp x out inn forms used).1=0 then (if rb (stp x out inn forms used).2.1>4096 then ([],i,5) else exl inn forms l (i+1) (out++ [(stp x out inn forms used).2.1]) (stp x out inn forms used).2.2)
   else ([],i,(stp x out inn forms used).1)
theorem op_of {x:I6} {n:Int} (h:FitsP x n):(x.1=1∧0≤x.2.1∧x.2.1<65536)∨(x.1=2∧RV x.2.2.2∧x.2.1=0∧x.2.2.1=0)∨((x.1=3∨x.1=8∨x.1=9∨x.1=10)∧0≤x.2.1∧x.2.1<n∧x.2.2.1=0)∨((x.1=4∨x.1=5∨x.1=6∨x.1=7)∧0≤x.2.1∧x.2.1<n∧0≤x.2.2.1∧x.2.2.1<n):=by
 have ac:=ari_cases x.1
 rcases h with ⟨h1,h2,h3,h4⟩ | ⟨h1,_,h3,h4,h5⟩ | ⟨h1,_,h3,h4,h5⟩ | ⟨h1,_,h3,h4,h5,h6⟩
 · exact .inr (.inl ⟨h1,h4,h2,h3⟩)
 · exact .inl ⟨h1,h3,h4⟩
 · exact .inr (.inr (.inl ⟨by omega,h3,h4,h5⟩))
 · exact .inr (.inr (.inr ⟨by omega,h3,h4,h5,h6⟩))
theorem stp_Bd {x:I6} {out inn forms:List Rat} {used:Nat} (hf:FitsP x out.length) (hx:ShI x) (ho:BdL 4096 out) (hi:BdL 4096 inn) (hF:BdL 4096 forms) (h:(stp x out inn forms used).1=0):Bd 8193 (stp x out inn forms used).2.1:=by
 have c:=op_of hf
 unfold stp at h ⊢
 split at h
 · split at h
   · rw [if_pos ‹_›,if_pos ‹_›]
     exact (gq_Bd hi (by omega) (by omega)).mono (by omega)
   · exact absurd h (show ¬ (11:Int)=0 by decide)
 rw [if_neg ‹_›]
 split at h
 · rw [if_pos ‹_›]
   have hv:RV x.2.2.2:=by
    rcases c with c | c | c | c
    · omega
    · exact c.2.1
    · omega
    · omega
   exact (de_Bd hx.1 hx.2.1 hv hx.2.2.1 hx.2.2.2).mono (by omega)
 rw [if_neg ‹_›]
 split at h
 · rw [if_pos ‹_›];exact (Bd_neg (gq_Bd ho (by omega) (by omega))).mono (by omega)
 rw [if_neg ‹_›]
 split at h
 · rw [if_pos ‹_›];exact (Bd_add (gq_Bd ho (by omega) (by omega)) (gq_Bd ho (by omega) (by omega))).mono (by omega)
 rw [if_neg ‹_›]
 split at h
 · rw [if_pos ‹_›];exact (Bd_sub (gq_Bd ho (by omega) (by omega)) (gq_Bd ho (by omega) (by omega))).mono (by omega)
 rw [if_neg ‹_›]
 split at h
 · rw [if_pos ‹_›];exact (Bd_mul (gq_Bd ho (by omega) (by omega)) (gq_Bd ho (by omega) (by omega))).mono (by omega)
 rw [if_neg ‹_›]
 split at h
 · rw [if_pos ‹_›]
   split at h
   · exact absurd h (show ¬ (4:Int)=0 by decide)
   · rw [if_neg ‹_›];exact (Bd_div (gq_Bd ho (by omega) (by omega)) (gq_Bd ho (by omega) (by omega)) ‹_›).mono (by omega)
 rw [if_neg ‹_›]
 split at h
 · rw [if_pos ‹_›];exact (gq_Bd hF (by omega) (by omega)).mono (by omega)
 · exact absurd h (show ¬ (6:Int)=0 by decide)

def sval (r:Int × Rat × Nat):R3:=if r.1=0 then en r.2.1 else zR
def stO (r:Int × Rat × Nat) (out inn forms:List Rat):Bool × List Int × List Int × Int × List R3 × List R3 × List R3 × Int:=((sval r).1,(sval r).2.1,(sval r).2.2,r.1,out.map en,inn.map en,forms.map en,(r.2.2:Int))
theorem len_en (l:List Rat):((l.map en).length:Int)=l.length:=by rw [List.length_map]
theorem exact_step_c {x:I6} {out inn forms:List Rat} {used:Nat} (hf:FitsP x out.length) (hx:ShI x) (ho:BdL 4096 out) (hi:BdL 4096 inn) (hF:BdL 4096 forms) (hl:forms.length≤1000000) :
 Ev (fun k=>evals_exact_step.f k (out.map en) (inn.map en) (forms.map en) used x.1 x.2.1 x.2.2.1 x.2.2.2.1 x.2.2.2.2.1 x.2.2.2.2.2) (stO (stp x out inn forms used) out inn forms):=by
 have c:=op_of hf
 have lo:=len_en out
 have li:=len_en inn
 have lf:=len_en forms
 obtain ⟨op,a,b,q⟩:=x
 dsimp only at c ⊢
 rcases c with ⟨rfl,h0,h1⟩ | ⟨rfl,hv,h0,h1⟩ | ⟨ho3,h0,h1,hb⟩ | ⟨ho2,h0,h1,hb0,hb1⟩
 · refine Ev.ifp rfl ?_
   by_cases hi2:a<inn.length
   · refine Ev.ifn (by omega) (Ev.ifp h0 (Ev.ifp (by omega) (Ev.same ?_)))
     rw [rd_en h0 hi2]
     have:stp (1,a,b,q) out inn forms used=(0,gq inn a,used):=by unfold stp;rw [if_pos rfl,if_pos hi2]
     rw [this]
     rfl
   · refine Ev.ifp (by omega) (Ev.same ?_)
     have:stp (1,a,b,q) out inn forms used=(11,0,used):=by unfold stp;rw [if_pos rfl,if_neg hi2]
     rw [this]
     rfl
 · refine Ev.ifn (by decide) (Ev.ifp rfl (Ev.same ?_))
   have e:en (de q)=q:=en_de hx.1 hx.2.1 hv
   show _=some ((en (de q)).1,(en (de q)).2.1,(en (de q)).2.2,_,_,_,_,_)
   rw [e]
   rfl
 · rcases ho3 with rfl | ho3
   · refine Ev.ifn (by decide) (Ev.ifn (by decide) (Ev.ifp rfl (Ev.ifp h0 (Ev.ifp (by omega) ?_))))
     rw [rd_en h0 h1]
     exact Ev.bind (rat_Neg_e (gq_Bd ho h0 h1) (by omega)) (Ev.same rfl)
   · refine Ev.ifn (by omega) (Ev.ifn (by omega) (Ev.ifn (by omega) (Ev.ifn (by omega) (Ev.ifn (by omega) (Ev.ifn (by omega) (Ev.ifn (by omega) ?_))))))
     have e:stp (op,a,b,q) out inn forms used=if used<forms.length then (0,gq forms used,used+1) else (6,0,used):=by
      unfold stp
      dsimp only
      rw [if_neg (by omega),if_neg (by omega),if_neg (by omega),if_neg (by omega),if_neg (by omega),if_neg (by omega),if_neg (by omega)]
     rw [e]
     by_cases hu:used<forms.length
     · rw [if_pos hu]
       have ew:wrap64 ((used:Int)+1)=((used+1:Nat):Int):=by rw [w64_id (by omega) (by omega)];omega
       have ew2:wrap64 (((used+1:Nat):Int)-1)=(used:Int):=by rw [w64_id (by omega) (by omega)];omega
       have F:evals_exact_form.f 0 (out.map en) (inn.map en) (forms.map en) used=some ((en (gq forms used)).1,(en (gq forms used)).2.1,(en (gq forms used)).2.2,0,out.map en,inn.map en,forms.map en,((used+1:Nat):Int)):=by
        unfold evals_exact_form.f
        rw [ew,ew2]
        clear ew ew2
        rw [if_neg (by omega),if_pos (by omega),if_pos (by omega),rd_en (l:=forms) (a:=(used:Int)) (by omega) (by omega)]
       exact Ev.bindc (x:=evals_exact_form.f 0 (out.map en) (inn.map en) (forms.map en) used) F (Ev.same rfl)
     · rw [if_neg hu]
       have F:evals_exact_form.f 0 (out.map en) (inn.map en) (forms.map en) used=some (false,[],[],6,out.map en,inn.map en,forms.map en,(used:Int)):=by
        unfold evals_exact_form.f
        rw [if_pos (by omega)]
       exact Ev.bindc (x:=evals_exact_form.f 0 (out.map en) (inn.map en) (forms.map en) used) F (Ev.same rfl)
 · have ba:=gq_Bd ho h0 h1
   have bb:=gq_Bd ho hb0 hb1
   rcases ho2 with rfl | rfl | rfl | rfl
   · refine Ev.ifn (by decide) (Ev.ifn (by decide) (Ev.ifn (by decide) (Ev.ifp rfl (Ev.ifp h0 (Ev.ifp (by omega) (Ev.ifp hb0 (Ev.ifp (by omega) ?_)))))))
     rw [rd_en h0 h1,rd_en hb0 hb1]
     exact Ev.bind (rat_Add_e ba bb (by omega) (by omega)) (Ev.same rfl)
   · refine Ev.ifn (by decide) (Ev.ifn (by decide) (Ev.ifn (by decide) (Ev.ifn (by decide) (Ev.ifp rfl (Ev.ifp h0 (Ev.ifp (by omega) (Ev.ifp hb0 (Ev.ifp (by omega) ?_))))))))
     rw [rd_en h0 h1,rd_en hb0 hb1]
     exact Ev.bind (rat_Sub_e ba bb (by omega) (by omega)) (Ev.same rfl)
   · refine Ev.ifn (by decide) (Ev.ifn (by decide) (Ev.ifn (by decide) (Ev.ifn (by decide) (Ev.ifn (by decide) (Ev.ifp rfl (Ev.ifp h0 (Ev.ifp (by omega) (Ev.ifp hb0 (Ev.ifp (by omega) ?_)))))))))
     rw [rd_en h0 h1,rd_en hb0 hb1]
     exact Ev.bind (rat_Mul_e ba bb (by omega) (by omega)) (Ev.same rfl)
   · refine Ev.ifn (by decide) (Ev.ifn (by decide) (Ev.ifn (by decide) (Ev.ifn (by decide) (Ev.ifn (by decide) (Ev.ifn (by decide) (Ev.ifp rfl (Ev.ifp h0 (Ev.ifp (by omega) (Ev.ifp hb0 (Ev.ifp (by omega) ?_))))))))))
     rw [rd_en h0 h1,rd_en hb0 hb1]
     refine Ev.bind (rat_Div_e ba bb (by omega) (by omega)) (Ev.same ?_)
     have e:stp (7,a,b,q) out inn forms used=if gq out b=0 then (4,0,used) else (0,gq out a/gq out b,used):=rfl
     rw [e]
     unfold qo
     by_cases hz:gq out b=0
     · rw [if_pos hz,if_pos hz];rfl
     · rw [if_neg hz,if_neg hz];rfl

def exO (r:List Rat × Int × Int):List R3 × Int × Int:=(r.1.map en,r.2.1,r.2.2)
theorem drop_I6 {l:List I6} {i:Nat} (h:i<l.length):l.drop i=l.getD i zI::l.drop (i+1):=by
 rw [getD_of h]
 exact List.drop_eq_getElem_cons h
theorem map_snoc (l:List Rat) (x:Rat):l.map en++ [en x]=(l++ [x]).map en:=by rw [List.map_append];rfl
theorem en_len {n:Int} {x:Rat} (h:Bd n x) (hn:n≤60000):(en x).2.1.length≤1000∧(en x).2.2.length≤1000:=by
 rw [en_parts]
 have a:=dg_len_bl (ab x.num)
 have b:=dg_len_bl (x.den:Int)
 have:=h.2
 dsimp only
 omega
theorem copied_c {n:Int} {x:Rat} (h:Bd n x) (hn:n≤60000):evals_copied.f (en x).1 (en x).2.1 (en x).2.2=some (en x):=by
 have:=en_len h hn
 unfold evals_copied.f
 show (if ([]:List Int).length+(en x).2.1.length<17592186044416 then (if ([]:List Int).length+(en x).2.2.length<17592186044416 then some ((en x).1,[]++(en x).2.1,[]++(en x).2.2) else none) else none)=_
 rw [if_pos (by simp only [List.length_nil];omega),if_pos (by simp only [List.length_nil];omega)]
 rfl
theorem exact_l0 {l:List I6} {inn forms:List Rat} (hf:FitL l) (hs : ∀ x∈l,ShI x) (hl:l.length≤1000000) (hi:BdL 4096 inn) (hF:BdL 4096 forms) (hlf:forms.length≤1000000) (d:Nat) : ∀ (i:Nat) (out:List Rat) (used:Nat),i+d=l.length→out.length=i→BdL 4096 out →
 Ev (fun k=>evals_Exact.l0 k l (l.length:Int) i (out.map en) (inn.map en) (forms.map en) used) (exO (exl inn forms (l.drop i) i out used)):=by
 induction d with
 | zero =>
   intro i out used h1 h2 h3
   rw [List.drop_of_length_le (by omega)]
   exact Ev.step (fun k=>evals_Exact.l0.eq_2 ..) (Ev.ifn (by omega) (Ev.same rfl))
 | succ d ih =>
   intro i out used h1 h2 h3
   rw [drop_I6 (by omega)]
   have ew:wrap64 ((i:Int)+1)=((i+1:Nat):Int):=by rw [w64_id (by omega) (by omega)];omega
   have fx:FitsP (l.getD i zI) out.length:=by rw [h2];exact hf i (by omega)
   have sx:ShI (l.getD i zI):=by rw [getD_of (by omega)];exact hs _ (List.getElem_mem _)
   refine Ev.step (fun k=>evals_Exact.l0.eq_2 ..) (Ev.ifp (by omega) (Ev.ifp (by omega) (Ev.ifp (by omega) ?_)))
   rw [rd_I6]
   have S:=exact_step_c (used:=used) fx sx h3 hi hF hlf
   have B:=stp_Bd (used:=used) fx sx h3 hi hF
   refine Ev.bind S ?_
   show Ev _ (exO (if _ then _ else _))
   generalize stp (l.getD i zI) out inn forms used=r at *
   obtain ⟨e,v,u⟩:=r
   dsimp only [stO] at *
   by_cases he:e=0
   · have B8:=B he
     subst he
     rw [if_pos rfl]
     have esv:sval (0,v,u)=en v:=rfl
     rw [esv]
     refine Ev.ifp rfl (Ev.bind (power_Bits_e B8 (by omega)) ?_)
     by_cases hb:rb v>4096
     · rw [if_pos hb]
       refine Ev.ifp hb (Ev.step (fun k=>evals_Exact.j10.eq_2 ..) (Ev.ifn (by decide) (Ev.same rfl)))
     · rw [if_neg hb]
       refine Ev.ifn hb (Ev.step (fun k=>evals_Exact.j10.eq_2 ..) (Ev.ifp rfl ?_))
       refine Ev.bindc (copied_c B8 (by omega)) (Ev.ifp (by rw [List.length_map];omega) ?_)
       have:=ih (i+1) (out++ [v]) u (by omega) (by simp;omega) (BdL_snoc h3 (rb_Bd (by omega)))
       rw [ew]
       rw [← map_snoc] at this
       exact this
   · rw [if_neg he]
     have esv:sval (e,v,u)=zR:=if_neg he
     rw [esv]
     refine Ev.ifn he (Ev.step (fun k=>evals_Exact.j10.eq_2 ..) (Ev.ifn he (Ev.same rfl)))

theorem ref16_step_c {x:I6} {out inn forms:List Rat} {used:Nat} (hf:FitsP x out.length) (o1:x.1≠1) (o2:x.1≠2) (o8 : ¬ (8≤x.1∧x.1≤10)) (ho:BdL 4096 out) :
 Ev (fun k=>gr16_step.f k x.1 x.2.1 x.2.2.1 x.2.2.2.1 x.2.2.2.2.1 x.2.2.2.2.2 (out.map en)) ((sval (stp x out inn forms used)).1,(sval (stp x out inn forms used)).2.1,(sval (stp x out inn forms used)).2.2,(stp x out inn forms used).1,out.map en)∧(stp x out inn forms used).2.2=used:=by
 have c:=op_of hf
 have lo:=len_en out
 obtain ⟨op,a,b,q⟩:=x
 dsimp only at c o1 o2 o8 ⊢
 rcases c with ⟨rfl,_,_⟩ | ⟨rfl,_,_,_⟩ | ⟨ho3,h0,h1,hb⟩ | ⟨ho2,h0,h1,hb0,hb1⟩
 · exact absurd rfl o1
 · exact absurd rfl o2
 · have:op=3:=by omega
   subst this
   refine ⟨Ev.ifp h0 (Ev.ifp (by omega) (Ev.ifp rfl ?_)),rfl⟩
   rw [rd_en h0 h1]
   exact Ev.bind (ref07_Neg_e (gq_Bd ho h0 h1) (by omega)) (Ev.same rfl)
 · have ba:=gq_Bd ho h0 h1
   have bb:=gq_Bd ho hb0 hb1
   rcases ho2 with rfl | rfl | rfl | rfl
   · refine ⟨Ev.ifp h0 (Ev.ifp (by omega) (Ev.ifn (by decide) (Ev.ifp hb0 (Ev.ifp (by omega) (Ev.ifp rfl ?_))))),rfl⟩
     rw [rd_en h0 h1,rd_en hb0 hb1]
     exact Ev.bind (ref07_Add_e ba bb (by omega) (by omega)) (Ev.same rfl)
   · refine ⟨Ev.ifp h0 (Ev.ifp (by omega) (Ev.ifn (by decide) (Ev.ifp hb0 (Ev.ifp (by omega) (Ev.ifn (by decide) (Ev.ifp rfl ?_)))))),rfl⟩
     rw [rd_en h0 h1,rd_en hb0 hb1]
     exact Ev.bind (ref07_Sub_e ba bb (by omega) (by omega)) (Ev.same rfl)
   · refine ⟨Ev.ifp h0 (Ev.ifp (by omega) (Ev.ifn (by decide) (Ev.ifp hb0 (Ev.ifp (by omega) (Ev.ifn (by decide) (Ev.ifn (by decide) (Ev.ifp rfl ?_))))))),rfl⟩
     rw [rd_en h0 h1,rd_en hb0 hb1]
     exact Ev.bind (ref07_Mul_e ba bb (by omega) (by omega)) (Ev.same rfl)
   · have e:stp (7,a,b,q) out inn forms used=if gq out b=0 then (4,0,used) else (0,gq out a/gq out b,used):=rfl
     rw [e]
     refine ⟨Ev.ifp h0 (Ev.ifp (by omega) (Ev.ifn (by decide) (Ev.ifp hb0 (Ev.ifp (by omega) (Ev.ifn (by decide) (Ev.ifn (by decide) (Ev.ifn (by decide) ?_))))))), ?_⟩
     · rw [rd_en h0 h1,rd_en hb0 hb1]
       refine Ev.bindc (ref07_Zero_e _) ?_
       by_cases hz:gq out b=0
       · rw [if_pos hz]
         exact Ev.ifp (decide_eq_true hz) (Ev.same rfl)
       · rw [if_neg hz]
         exact Ev.ifn (by rw [decide_eq_false hz];decide) (Ev.bind (ref07_Div_e ba bb (by omega) (by omega) hz) (Ev.same rfl))
     · split<;>rfl
theorem ref16_l0 {l:List I6} {inn forms:List Rat} (hf:FitL l) (hs : ∀ x∈l,ShI x) (hl:l.length≤1000000) (hi:BdL 4096 inn) (hF:BdL 4096 forms) (hlf:forms.length≤1000000) (d:Nat) : ∀ (i:Nat) (out:List Rat) (used:Nat),i+d=l.length→out.length=i→BdL 4096 out →
 Ev (fun k=>gr16_Exact.l0 k l (inn.map en) (forms.map en) (out.map en) used (l.length:Int) i) (exO (exl inn forms (l.drop i) i out used)):=by
 induction d with
 | zero =>
   intro i out used h1 h2 h3
   rw [List.drop_of_length_le (by omega)]
   exact Ev.step (fun k=>gr16_Exact.l0.eq_2 ..) (Ev.ifn (by omega) (Ev.same rfl))
 | succ d ih =>
   intro i out used h1 h2 h3
   rw [drop_I6 (by omega)]
   have ew:wrap64 ((i:Int)+1)=((i+1:Nat):Int):=by rw [w64_id (by omega) (by omega)];omega
   have fx:FitsP (l.getD i zI) out.length:=by rw [h2];exact hf i (by omega)
   have sx:ShI (l.getD i zI):=by rw [getD_of (by omega)];exact hs _ (List.getElem_mem _)
   have B:=stp_Bd (used:=used) fx sx h3 hi hF
   have S:=ref16_step_c (inn:=inn) (forms:=forms) (used:=used) fx
   have c:=op_of fx
   have a0:0≤(l.getD i zI).2.1:=by rcases c with c | c | c | c<;>omega
   have hv2:(l.getD i zI).1=2→RV (l.getD i zI).2.2.2:=fun k=>by
    rcases c with c | c | c | c
    · omega
    · exact c.2.1
    · omega
    · omega
   clear c
   refine Ev.step (fun k=>gr16_Exact.l0.eq_2 ..) (Ev.ifp (by omega) (Ev.ifp (by omega) (Ev.ifp (by omega) ?_)))
   rw [rd_I6]
   show Ev _ (exO (if _ then _ else _))
   have J : ∀ (e:Int) (v:Rat) (u:Nat),(e=0→Bd 8193 v)→Ev (fun k=>gr16_Exact.j23 k l (inn.map en) (forms.map en) (out.map en) u i e (l.length:Int) i (sval (e,v,u)).1 (sval (e,v,u)).2.1 (sval (e,v,u)).2.2) (exO (if e=0 then (if rb v>4096 then ([],(i:Int),5) else exl inn forms (l.drop (i+1)) (i+1) (out++ [v]) u) else ([],(i:Int),e))):=by
    intro e v u B
    refine Ev.step (fun k=>gr16_Exact.j23.eq_2 ..) ?_
    by_cases he:e=0
    · have B8:=B he
      subst he
      rw [if_pos rfl]
      have esv:sval (0,v,u)=en v:=rfl
      rw [esv]
      refine Ev.ifp rfl (Ev.bind (ref08_Bits_e B8 (by omega)) ?_)
      by_cases hb:rb v>4096
      · rw [if_pos hb]
        refine Ev.ifp hb (Ev.step (fun k=>gr16_Exact.j25.eq_2 ..) (Ev.ifn (by decide) (Ev.same rfl)))
      · rw [if_neg hb]
        refine Ev.ifn hb (Ev.step (fun k=>gr16_Exact.j25.eq_2 ..) (Ev.ifp rfl (Ev.ifp (by rw [List.length_map];omega) ?_)))
        have:=ih (i+1) (out++ [v]) u (by omega) (by simp;omega) (BdL_snoc h3 (rb_Bd (by omega)))
        rw [ew]
        rw [← map_snoc] at this
        exact this
    · rw [if_neg he]
      refine Ev.ifn he (Ev.step (fun k=>gr16_Exact.j25.eq_2 ..) (Ev.ifn he (Ev.same rfl)))
   have li:=len_en inn
   have lf:=len_en forms
   generalize l.getD i zI=x at *
   by_cases o1:x.1=1
   · refine Ev.ifp o1 ?_
     by_cases hi2:x.2.1<inn.length
     · have e:stp x out inn forms used=(0,gq inn x.2.1,used):=by unfold stp;rw [if_pos o1,if_pos hi2]
       rw [e] at B ⊢
       refine Ev.ifn (by omega) (Ev.ifp a0 (Ev.ifp (by omega) ?_))
       rw [rd_en a0 hi2]
       exact J 0 _ used (fun _=>B rfl)
     · have e:stp x out inn forms used=(11,0,used):=by unfold stp;rw [if_pos o1,if_neg hi2]
       rw [e]
       exact Ev.ifp (by omega) (Ev.same rfl)
   refine Ev.ifn o1 ?_
   by_cases o2:x.1=2
   · have hv:=hv2 o2
     have e:stp x out inn forms used=(0,de x.2.2.2,used):=by unfold stp;rw [if_neg o1,if_pos o2]
     rw [e] at B ⊢
     have:=J 0 _ used (fun _=>B rfl)
     have esv:sval (0,de x.2.2.2,used)=x.2.2.2:=en_de sx.1 sx.2.1 hv
     rw [esv] at this
     exact Ev.ifp o2 this
   refine Ev.ifn o2 (Ev.bindc (ref15_Form_c x.1) ?_)
   by_cases o8:8≤x.1∧x.1≤10
   · refine Ev.ifp (decide_eq_true o8) ?_
     have e:stp x out inn forms used=if used<forms.length then (0,gq forms used,used+1) else (6,0,used):=by
      unfold stp
      rw [if_neg (by omega),if_neg (by omega),if_neg (by omega),if_neg (by omega),if_neg (by omega),if_neg (by omega),if_neg (by omega)]
     rw [e] at B ⊢
     clear ew
     by_cases hu:used<forms.length
     · rw [if_pos hu] at B ⊢
       have ew:wrap64 ((used:Int)+1)=((used+1:Nat):Int):=by rw [w64_id (by omega) (by omega)];omega
       refine Ev.ifn (by clear ew;omega) (Ev.ifp (by clear ew;omega) (Ev.ifp (by clear ew;omega) ?_))
       rw [ew,rd_en (l:=forms) (a:=(used:Int)) (by clear ew;omega) (by clear ew;omega)]
       exact J 0 _ (used+1) (fun _=>B rfl)
     · rw [if_neg hu]
       exact Ev.ifp (by omega) (Ev.same rfl)
   · refine Ev.ifn (by rw [decide_eq_false o8];decide) ?_
     obtain ⟨S1,S2⟩:=S o1 o2 o8 h3
     refine Ev.bind S1 ?_
     have:=J (stp x out inn forms used).1 (stp x out inn forms used).2.1 (stp x out inn forms used).2.2 B
     rw [S2] at this ⊢
     have e:((stp x out inn forms used).1,(stp x out inn forms used).2.1,used)=stp x out inn forms used:=Prod.ext rfl (Prod.ext rfl S2.symm)
     rw [e] at this
     exact this
def exS (l:List I6) (inn forms:List Rat):List Rat × Int × Int:=exl inn forms l 0 [] 0
theorem list_en {l:List R3} (hs : ∀ x∈l,Ws x.2.1∧Ws x.2.2) (hr : ∀ x∈l,RV x):(l.map de).map en=l:=by
 induction l with
 | nil=>rfl
 | cons x l ih =>
   have h1:=hs x (List.mem_cons_self ..)
   rw [List.map_cons,List.map_cons,en_de h1.1 h1.2 (hr x (List.mem_cons_self ..)),ih (fun y hy=>hs y (List.mem_cons_of_mem _ hy)) (fun y hy=>hr y (List.mem_cons_of_mem _ hy))]
theorem list_Bd {l:List R3} {n:Nat} (hs : ∀ x∈l,Ws x.2.1∧Ws x.2.2∧x.2.1.length≤n∧x.2.2.length≤n) (hr : ∀ x∈l,RV x):BdL (64*n) (l.map de):=by
 intro y hy
 obtain ⟨x,hx,rfl⟩:=List.mem_map.1 hy
 have h:=hs x hx
 exact de_Bd h.1 h.2.1 (hr x hx) h.2.2.1 h.2.2.2
def Sh3 (q:R3):Prop:=Ws q.2.1∧Ws q.2.2∧q.2.1.length≤3∧q.2.2.length≤3
theorem Sh3.sm {q:R3} (h:Sh3 q):SmR q:=⟨h.1,h.2.1,by have:=h.2.2.1;omega,by have:=h.2.2.2;omega⟩
theorem Exact_both {l:List I6} {inn forms:List R3} (hl:l.length≤60) (hs : ∀ x∈l,ShI x) (li:inn.length≤1000) (lf:forms.length≤1000) (hi : ∀ x∈inn,Sh3 x) (hF : ∀ x∈forms,Sh3 x) :
 (Ev (fun k=>evals_Exact.f k l inn forms) ([],0,1)∧Ev (fun k=>gr16_Exact.f k l inn forms) ([],0,1)) ∨
 (FitL l∧(∀ x∈inn,RV x)∧(∀ x∈forms,RV x)∧Ev (fun k=>evals_Exact.f k l inn forms) (exO (exS l (inn.map de) (forms.map de)))∧Ev (fun k=>gr16_Exact.f k l inn forms) (exO (exS l (inn.map de) (forms.map de)))):=by
 obtain ⟨a1,A1,c1⟩:=line_Right_c (l:=l) (by omega) (fun x hx=>(hs x hx).sm)
 obtain ⟨b1,B1,d1⟩:=ref15_Right_c (l:=l) (by omega) (fun x hx=>(hs x hx).sm)
 obtain ⟨a2,A2,c2⟩:=evals_right_c (l:=inn) (by omega) (fun x hx=>(hi x hx).sm)
 obtain ⟨b2,B2,d2⟩:=ref16_Rats_c (l:=inn) (by omega) (fun x hx=>(hi x hx).sm)
 obtain ⟨a3,A3,c3⟩:=evals_right_c (l:=forms) (by omega) (fun x hx=>(hF x hx).sm)
 obtain ⟨b3,B3,d3⟩:=ref16_Rats_c (l:=forms) (by omega) (fun x hx=>(hF x hx).sm)
 have e1:b1=a1:=Bool.eq_iff_iff.2 (d1.trans c1.symm)
 have e2:b2=a2:=Bool.eq_iff_iff.2 (d2.trans c2.symm)
 have e3:b3=a3:=Bool.eq_iff_iff.2 (d3.trans c3.symm)
 subst e1 e2 e3
 have J:Ev (fun k=>evals_Exact.j2 k) ([],0,1):=Ev.step (fun k=>evals_Exact.j2.eq_2 ..) (Ev.same rfl)
 have J':Ev (fun k=>gr16_Exact.j2 k) ([],0,1):=Ev.step (fun k=>gr16_Exact.j2.eq_2 ..) (Ev.same rfl)
 cases b1
 · exact .inl ⟨Ev.bind A1 (Ev.ifn (by decide) J),Ev.bind B1 (Ev.ifn (by decide) J')⟩
 cases b2
 · exact .inl ⟨Ev.bind A1 (Ev.ifp rfl (Ev.bind A2 (Ev.ifn (by decide) J))),Ev.bind B1 (Ev.ifp rfl (Ev.bind B2 (Ev.ifn (by decide) J')))⟩
 cases b3
 · exact .inl ⟨Ev.bind A1 (Ev.ifp rfl (Ev.bind A2 (Ev.ifp rfl (Ev.bind A3 (Ev.ifn (by decide) J))))),Ev.bind B1 (Ev.ifp rfl (Ev.bind B2 (Ev.ifp rfl (Ev.bind B3 (Ev.ifn (by decide) J')))))⟩
 have f1:=c1.1 rfl
 have f2:=c2.1 rfl
 have f3:=c3.1 rfl
 refine .inr ⟨f1,f2,f3, ?_, ?_⟩
 · refine Ev.bind A1 (Ev.ifp rfl (Ev.bind A2 (Ev.ifp rfl (Ev.bind A3 (Ev.ifp rfl ?_)))))
   have:=exact_l0 (inn:=inn.map de) (forms:=forms.map de) f1 hs (by omega) ((list_Bd hi f2).mono (by omega)) ((list_Bd hF f3).mono (by omega)) (by rw [List.length_map];omega) l.length 0 [] 0 (by omega) rfl (BdL_nil _)
   rw [list_en (fun x hx=>⟨(hi x hx).1,(hi x hx).2.1⟩) f2,list_en (fun x hx=>⟨(hF x hx).1,(hF x hx).2.1⟩) f3] at this
   exact this
 · refine Ev.bind B1 (Ev.ifp rfl (Ev.bind B2 (Ev.ifp rfl (Ev.bind B3 (Ev.ifp rfl ?_)))))
   have:=ref16_l0 (inn:=inn.map de) (forms:=forms.map de) f1 hs (by omega) ((list_Bd hi f2).mono (by omega)) ((list_Bd hF f3).mono (by omega)) (by rw [List.length_map];omega) l.length 0 [] 0 (by omega) rfl (BdL_nil _)
   rw [list_en (fun x hx=>⟨(hi x hx).1,(hi x hx).2.1⟩) f2,list_en (fun x hx=>⟨(hF x hx).1,(hF x hx).2.1⟩) f3] at this
   exact this
theorem exl_Bd {inn forms:List Rat} : ∀ (l:List I6) (i:Nat) (out:List Rat) (used:Nat),BdL 4096 out→BdL 4096 (exl inn forms l i out used).1
 | [],i,out,used,h=>h
 | x::l,i,out,used,h=>by
   show BdL 4096 (if _ then _ else _:List Rat × Int × Int).1
   split
   · split
     · exact BdL_nil _
     · exact exl_Bd l (i+1) _ _ (BdL_snoc h (rb_Bd (by omega)))
   · exact BdL_nil _
theorem exl_len {inn forms:List Rat} : ∀ (l:List I6) (i:Nat) (out:List Rat) (used:Nat),((exl inn forms l i out used).2.2=0→(exl inn forms l i out used).1.length=out.length+l.length∧(exl inn forms l i out used).2.1=0)∧(exl inn forms l i out used).1.length≤out.length+l.length
 | [],i,out,used=>⟨fun _=>⟨rfl,rfl⟩,by show out.length≤_;omega⟩
 | x::l,i,out,used=>by
   show (((if _ then _ else _:List Rat × Int × Int).2.2=0)→(if _ then _ else _:List Rat × Int × Int).1.length=_∧(if _ then _ else _:List Rat × Int × Int).2.1=0)∧(if _ then _ else _:List Rat × Int × Int).1.length≤_
   split
   · split
     · exact ⟨fun h=>absurd h (show ¬ (5:Int)=0 by decide),by simp⟩
     · have ih:=exl_len (inn:=inn) (forms:=forms) l (i+1) (out++ [(stp x out inn forms used).2.1]) (stp x out inn forms used).2.2
       simp only [List.length_append,List.length_cons,List.length_nil] at ih ⊢
       refine ⟨fun h=>⟨by have:=(ih.1 h).1;omega,(ih.1 h).2⟩,by have:=ih.2;omega⟩
   · rename_i h
     exact ⟨fun k=>absurd k h,by simp⟩
def qd0 (n d:Rat):Int × Rat:=if d=0 then (4,0) else (0,n/d)
def tst (x:I6) (y:Rat) (vals tans dirs:List Rat):Int × Rat :=
 if x.1=1 then (0,gq dirs x.2.1)
 else if x.1=2 then (0,0)
 else if x.1=3 then (0,-(gq tans x.2.1))
 else if x.1=4 then (0,gq tans x.2.1+gq tans x.2.2.1)
 else if x.1=5 then (0,gq tans x.2.1-gq tans x.2.2.1)
 else if x.1=6 then (0,gq tans x.2.1*gq vals x.2.2.1+gq vals x.2.1*gq tans x.2.2.1)
 else if x.1=7 then qd0 (gq tans x.2.1-y*gq tans x.2.2.1) (gq vals x.2.2.1)
 else if x.1=8 then qd0 (gq tans x.2.1) (y+y)
 else if x.1=9 then (0,gq tans x.2.1*y)
 else qd0 (gq tans x.2.1) (gq vals x.2.1)
def tal (vals dirs:List Rat):List I6→Nat→List Rat→List Rat × Int × Int
 | [],_,out=>(out,0,0)
 | x::l,i,out =>
   if (tst x (gq vals i) vals out dirs).1=0 then (if rb (tst x (gq vals i) vals out dirs).2>4096 then ([],i,5) else tal vals dirs l (i+1) (out++ [(tst x (gq vals i) vals out dirs).2]))
   else ([],i,(tst x (gq vals i) vals out dirs).1)
theorem qd0_Bd {n d:Rat} {a b:Int} (hn:Bd a n) (hd:Bd b d) (h:(qd0 n d).1=0):Bd (a+b) (qd0 n d).2:=by
 unfold qd0 at h ⊢
 split at h
 · exact absurd h (by decide)
 · rw [if_neg ‹_›];exact Bd_div hn hd ‹_›
theorem tst_Bd {x:I6} {y:Rat} {vals tans dirs:List Rat} (hf:FitsP x tans.length) (hlv:tans.length≤vals.length) (hd1:x.1=1→x.2.1<dirs.length) (hv:BdL 4096 vals) (ht:BdL 4096 tans) (hd:BdL 4096 dirs) (hy:Bd 4096 y) (h:(tst x y vals tans dirs).1=0):Bd 17000 (tst x y vals tans dirs).2:=by
 have c:=op_of hf
 have gt : ∀ a:Int,0≤a→a<tans.length→Bd 4096 (gq tans a):=fun a h0 h1=>gq_Bd ht h0 h1
 have gv : ∀ a:Int,0≤a→a<tans.length→Bd 4096 (gq vals a):=fun a h0 h1=>gq_Bd hv h0 (by omega)
 unfold tst at h ⊢
 split at h
 · rw [if_pos ‹_›];exact (gq_Bd hd (by omega) (hd1 ‹_›)).mono (by omega)
 rw [if_neg ‹_›]
 split at h
 · rw [if_pos ‹_›];exact (Bd_zero (by omega))
 rw [if_neg ‹_›]
 split at h
 · rw [if_pos ‹_›];exact (Bd_neg (gt _ (by omega) (by omega))).mono (by omega)
 rw [if_neg ‹_›]
 split at h
 · rw [if_pos ‹_›];exact (Bd_add (gt _ (by omega) (by omega)) (gt _ (by omega) (by omega))).mono (by omega)
 rw [if_neg ‹_›]
 split at h
 · rw [if_pos ‹_›];exact (Bd_sub (gt _ (by omega) (by omega)) (gt _ (by omega) (by omega))).mono (by omega)
 rw [if_neg ‹_›]
 split at h
 · rw [if_pos ‹_›];exact (Bd_add (Bd_mul (gt _ (by omega) (by omega)) (gv _ (by omega) (by omega))) (Bd_mul (gv _ (by omega) (by omega)) (gt _ (by omega) (by omega)))).mono (by omega)
 rw [if_neg ‹_›]
 split at h
 · rw [if_pos ‹_›];exact (qd0_Bd (Bd_sub (gt _ (by omega) (by omega)) (Bd_mul hy (gt _ (by omega) (by omega)))) (gv _ (by omega) (by omega)) h).mono (by omega)
 rw [if_neg ‹_›]
 split at h
 · rw [if_pos ‹_›];exact (qd0_Bd (gt _ (by omega) (by omega)) (Bd_add hy hy) h).mono (by omega)
 rw [if_neg ‹_›]
 split at h
 · rw [if_pos ‹_›];exact (Bd_mul (gt _ (by omega) (by omega)) hy).mono (by omega)
 rw [if_neg ‹_›]
 exact (qd0_Bd (gt _ (by omega) (by omega)) (gv _ (by omega) (by omega)) h).mono (by omega)

def tv (r:Int × Rat):R3:=if r.1=0 then en r.2 else zR
theorem by_c {n d:Rat} {a b:Int} (hn:Bd a n) (hd:Bd b d) (ha:a≤14000) (hb:b≤14000):Ev (fun k=>tangent_by.f k (en n).1 (en n).2.1 (en n).2.2 (en d).1 (en d).2.1 (en d).2.2 0) ((tv (qd0 n d)).1,(tv (qd0 n d)).2.1,(tv (qd0 n d)).2.2,(qd0 n d).1):=by
 refine Ev.bind (rat_Div_e hn hd ha hb) (Ev.ifp rfl (Ev.same ?_))
 unfold qo qd0
 split<;>rfl
theorem twice_c {n:Rat} {a:Int} (hn:Bd a n) (ha:a≤14000):Ev (fun k=>tangent_twice.f k (en n).1 (en n).2.1 (en n).2.2) (en (n+n)):=Ev.bind (rat_Add_e hn hn ha ha) (Ev.same rfl)
theorem along_c {x:I6} {i:Nat} {vals tans dirs:List Rat} (hf:FitsP x tans.length) (hlv:tans.length≤vals.length) (hi:i<vals.length) (hd1:x.1=1→x.2.1<dirs.length) (hv:BdL 4096 vals) (ht:BdL 4096 tans) (hd:BdL 4096 dirs) :
 Ev (fun k=>tangent_along.f k x.1 x.2.1 x.2.2.1 x.2.2.2.1 x.2.2.2.2.1 x.2.2.2.2.2 i (vals.map en) (tans.map en) (dirs.map en)) ((tv (tst x (gq vals i) vals tans dirs)).1,(tv (tst x (gq vals i) vals tans dirs)).2.1,(tv (tst x (gq vals i) vals tans dirs)).2.2,(tst x (gq vals i) vals tans dirs).1,tans.map en):=by
 have c:=op_of hf
 have lv:=len_en vals
 have lt:=len_en tans
 have ld:=len_en dirs
 have by0:Bd 4096 (gq vals i):=gq_Bd hv (by omega) (by omega)
 have ry:=rd_en (l:=vals) (a:=i) (by omega) (by omega)
 obtain ⟨op,a,b,q⟩:=x
 dsimp only at c hd1 ⊢
 rcases c with ⟨rfl,h0,h1⟩ | ⟨rfl,hv,h0,h1⟩ | ⟨ho3,h0,h1,hb⟩ | ⟨ho2,h0,h1,hb0,hb1⟩
 · have:=hd1 rfl
   refine Ev.ifp rfl (Ev.ifp h0 (Ev.ifp (by omega) (Ev.same ?_)))
   rw [rd_en h0 this]
   rfl
 · exact Ev.ifn (by decide) (Ev.ifp rfl (Ev.bind (rat_Of_c (n:=0) (by omega) (by omega)) (Ev.same rfl)))
 · have bt:=gq_Bd ht h0 h1
   have bv:Bd 4096 (gq vals a):=gq_Bd hv h0 (by omega)
   have rt:=rd_en h0 h1
   have rv:=rd_en (l:=vals) h0 (by omega)
   refine Ev.ifn (by omega) (Ev.ifn (by omega) ?_)
   rcases ho3 with rfl | rfl | rfl | rfl
   · refine Ev.ifp rfl (Ev.ifp h0 (Ev.ifp (by omega) ?_))
     rw [rt]
     exact Ev.bind (rat_Neg_e bt (by omega)) (Ev.same rfl)
   · refine Ev.ifn (by decide) (Ev.ifn (by decide) (Ev.ifn (by decide) (Ev.ifn (by decide) (Ev.ifn (by decide) (Ev.ifp rfl (Ev.ifp h0 (Ev.ifp (by omega) (Ev.ifp (by omega) (Ev.ifp (by omega) ?_)))))))))
     rw [rt,ry]
     exact Ev.bind (twice_c by0 (by omega)) (Ev.bind (by_c bt (Bd_add by0 by0) (by omega) (by omega)) (Ev.same rfl))
   · refine Ev.ifn (by decide) (Ev.ifn (by decide) (Ev.ifn (by decide) (Ev.ifn (by decide) (Ev.ifn (by decide) (Ev.ifn (by decide) (Ev.ifp rfl (Ev.ifp h0 (Ev.ifp (by omega) (Ev.ifp (by omega) (Ev.ifp (by omega) ?_))))))))))
     rw [rt,ry]
     exact Ev.bind (rat_Mul_e bt by0 (by omega) (by omega)) (Ev.same rfl)
   · refine Ev.ifn (by decide) (Ev.ifn (by decide) (Ev.ifn (by decide) (Ev.ifn (by decide) (Ev.ifn (by decide) (Ev.ifn (by decide) (Ev.ifn (by decide) (Ev.ifp h0 (Ev.ifp (by omega) (Ev.ifp (by omega) ?_)))))))))
     rw [rt,rv]
     exact Ev.bind (by_c bt bv (by omega) (by omega)) (Ev.same rfl)
 · have bt:=gq_Bd ht h0 h1
   have bv:Bd 4096 (gq vals a):=gq_Bd hv h0 (by omega)
   have rt:=rd_en h0 h1
   have rv:=rd_en (l:=vals) h0 (by omega)
   have bt2:=gq_Bd ht hb0 hb1
   have bv2:Bd 4096 (gq vals b):=gq_Bd hv hb0 (by omega)
   have rt2:=rd_en hb0 hb1
   have rv2:=rd_en (l:=vals) hb0 (by omega)
   refine Ev.ifn (by omega) (Ev.ifn (by omega) (Ev.ifn (by omega) ?_))
   rcases ho2 with rfl | rfl | rfl | rfl
   · refine Ev.ifp rfl (Ev.ifp h0 (Ev.ifp (by omega) (Ev.ifp hb0 (Ev.ifp (by omega) ?_))))
     rw [rt,rt2]
     exact Ev.bind (rat_Add_e bt bt2 (by omega) (by omega)) (Ev.same rfl)
   · refine Ev.ifn (by decide) (Ev.ifp rfl (Ev.ifp h0 (Ev.ifp (by omega) (Ev.ifp hb0 (Ev.ifp (by omega) ?_)))))
     rw [rt,rt2]
     exact Ev.bind (rat_Sub_e bt bt2 (by omega) (by omega)) (Ev.same rfl)
   · refine Ev.ifn (by decide) (Ev.ifn (by decide) (Ev.ifp rfl (Ev.ifp h0 (Ev.ifp (by omega) (Ev.ifp hb0 (Ev.ifp (by omega) ?_))))))
     rw [rt,rt2,rv,rv2]
     exact Ev.bind (rat_Mul_e bt bv2 (by omega) (by omega)) (Ev.ifp (by omega) (Ev.ifp (by omega) (Ev.bind (rat_Mul_e bv bt2 (by omega) (by omega)) (Ev.bind (rat_Add_e (Bd_mul bt bv2) (Bd_mul bv bt2) (by omega) (by omega)) (Ev.same rfl)))))
   · refine Ev.ifn (by decide) (Ev.ifn (by decide) (Ev.ifn (by decide) (Ev.ifp rfl (Ev.ifp h0 (Ev.ifp (by omega) (Ev.ifp (by omega) (Ev.ifp (by omega) (Ev.ifp hb0 (Ev.ifp (by omega) ?_)))))))))
     rw [rt,rt2,ry,rv2]
     exact Ev.bind (rat_Mul_e by0 bt2 (by omega) (by omega)) (Ev.bind (rat_Sub_e bt (Bd_mul by0 bt2) (by omega) (by omega)) (Ev.ifp (by omega) (Ev.bind (by_c (Bd_sub bt (Bd_mul by0 bt2)) bv2 (by omega) (by omega)) (Ev.same rfl))))
theorem exl_inputs {inn forms:List Rat} : ∀ (l:List I6) (i:Nat) (out:List Rat) (used:Nat),(exl inn forms l i out used).2.2=0→ ∀ x∈l,x.1=1→x.2.1<inn.length
 | [],i,out,used,_,x,hx,_=>absurd hx (by simp)
 | y::l,i,out,used,h,x,hx,h1=>by
   have h:(if _ then _ else _:List Rat × Int × Int).2.2=0:=h
   split at h
   · rename_i h0
     split at h
     · exact absurd h (show ¬ (5:Int)=0 by decide)
     · rcases List.mem_cons.1 hx with rfl | hx
       · unfold stp at h0
         rw [if_pos h1] at h0
         split at h0
         · assumption
         · exact absurd h0 (show ¬ (11:Int)=0 by decide)
       · exact exl_inputs l (i+1) _ _ h x hx h1
   · exact absurd h ‹_›
theorem of_l1 {l:List I6} {vals dirs:List Rat} (hf:FitL l) (hs : ∀ x∈l,ShI x) (hl:l.length≤1000000) (hlv:vals.length=l.length) (hd1 : ∀ x∈l,x.1=1→x.2.1<dirs.length) (hv:BdL 4096 vals) (hd:BdL 4096 dirs) (d:Nat) : ∀ (i:Nat) (out:List Rat),i+d=l.length→out.length=i→BdL 4096 out →
 Ev (fun k=>tangent_Of.l1 k (dirs.map en) (vals.map en) (out.map en) l (l.length:Int) i) (if (tal vals dirs (l.drop i) i out).2.2=0 then (vals.map en,(tal vals dirs (l.drop i) i out).1.map en,0,0) else ([],[],(tal vals dirs (l.drop i) i out).2.1,(tal vals dirs (l.drop i) i out).2.2)):=by
 induction d with
 | zero =>
   intro i out h1 h2 h3
   rw [List.drop_of_length_le (by omega)]
   exact Ev.step (fun k=>tangent_Of.l1.eq_2 ..) (Ev.ifn (by omega) (Ev.same rfl))
 | succ d ih =>
   intro i out h1 h2 h3
   rw [drop_I6 (by omega)]
   have ew:wrap64 ((i:Int)+1)=((i+1:Nat):Int):=by rw [w64_id (by omega) (by omega)];omega
   have fx:FitsP (l.getD i zI) out.length:=by rw [h2];exact hf i (by omega)
   have mx:l.getD i zI∈l:=by rw [getD_of (by omega)];exact List.getElem_mem _
   have dx:=hd1 _ mx
   refine Ev.step (fun k=>tangent_Of.l1.eq_2 ..) (Ev.ifp (by omega) (Ev.ifp (by omega) (Ev.ifp (by omega) ?_)))
   rw [rd_I6]
   have S:=along_c (i:=i) (vals:=vals) (dirs:=dirs) fx (by omega) (by omega) dx hv h3 hd
   have B:=tst_Bd (y:=gq vals i) (vals:=vals) (dirs:=dirs) fx (by omega) dx hv h3 hd (gq_Bd hv (by omega) (by omega))
   refine Ev.bind S ?_
   have E:tal vals dirs (l.getD i zI::l.drop (i+1)) i out=if (tst (l.getD i zI) (gq vals i) vals out dirs).1=0 then (if rb (tst (l.getD i zI) (gq vals i) vals out dirs).2>4096 then ([],(i:Int),5) else tal vals dirs (l.drop (i+1)) (i+1) (out++ [(tst (l.getD i zI) (gq vals i) vals out dirs).2])) else ([],(i:Int),(tst (l.getD i zI) (gq vals i) vals out dirs).1):=rfl
   rw [E]
   clear E S
   generalize tst (l.getD i zI) (gq vals i) vals out dirs=r at *
   obtain ⟨e,v⟩:=r
   dsimp only at *
   by_cases he:e=0
   · have B8:=B he
     subst he
     rw [if_pos rfl]
     have esv:tv (0,v)=en v:=rfl
     rw [esv]
     by_cases hb:rb v>4096
     · rw [if_pos hb]
       exact Ev.bind (Ev.ifp rfl (Ev.bind (power_Bits_e B8 (by omega)) (Ev.ifp hb (Ev.same rfl)))) (Ev.ifn (by decide) (Ev.same rfl))
     · rw [if_neg hb]
       have ln:=en_len B8 (by omega)
       refine Ev.bind (Ev.ifp rfl (Ev.bind (power_Bits_e B8 (by omega)) (Ev.ifn hb (Ev.same rfl)))) (Ev.ifp rfl (Ev.ifp (by simp only [List.length_nil];omega) (Ev.ifp (by simp only [List.length_nil];omega) (Ev.ifp (by rw [List.length_map];omega) ?_))))
       have:=ih (i+1) (out++ [v]) (by omega) (by simp;omega) (BdL_snoc h3 (rb_Bd (by omega)))
       rw [ew]
       rw [← map_snoc] at this
       exact this
   · rw [if_neg he]
     have esv:tv (e,v)=zR:=if_neg he
     rw [esv]
     refine Ev.bind (Ev.ifn he (Ev.same rfl)) (Ev.ifn he (Ev.same ?_))
     rw [if_neg he]

theorem ref17_twice_c {n:Rat} {a:Int} (hn:Bd a n) (ha:a≤14000):Ev (fun k=>gr17_twice.f k (en n).1 (en n).2.1 (en n).2.2) (en (n+n)):=Ev.bind (ref07_Add_e hn hn ha ha) (Ev.same rfl)
theorem ref17_qd {n d:Rat} {a b:Int} (hn:Bd a n) (hd:Bd b d) (ha:a≤14000) (hb:b≤14000):Ev (fun k=>(gr07_Zero.f (en d).1 (en d).2.1 (en d).2.2).bind fun t13=>(if t13=true then (some (false,([]:List Int),([]:List Int),(4:Int))) else ((gr07_Div.f k (en n).1 (en n).2.1 (en n).2.2 (en d).1 (en d).2.1 (en d).2.2).bind fun bt14=>(some (bt14.1,bt14.2.1,bt14.2.2,0))))) ((tv (qd0 n d)).1,(tv (qd0 n d)).2.1,(tv (qd0 n d)).2.2,(qd0 n d).1):=by
 refine Ev.bindc (ref07_Zero_e d) ?_
 unfold qd0
 by_cases hz:d=0
 · rw [if_pos hz]
   exact Ev.ifp (decide_eq_true hz) (Ev.same rfl)
 · rw [if_neg hz]
   exact Ev.ifn (by rw [decide_eq_false hz];decide) (Ev.bind (ref07_Div_e hn hd ha hb hz) (Ev.same rfl))
theorem len2a (a b:R3):(0:Int)<([a,b].length:Int):=by show (0:Int)<((2:Nat):Int);omega
theorem len2b (a b:R3):(1:Int)<([a,b].length:Int):=by show (1:Int)<((2:Nat):Int);omega
theorem ref17_Along_c {x:I6} {y va vb ta tb:Rat} {vals tans dirs:List Rat} (hx:3≤x.1∧x.1≤10) (ea:gq vals x.2.1=va) (eb:gq vals x.2.2.1=vb) (eta:gq tans x.2.1=ta) (etb:gq tans x.2.2.1=tb) (hy:Bd 4096 y) (hva:Bd 4096 va) (hvb:Bd 4096 vb) (hta:Bd 4096 ta) (htb:Bd 4096 tb) :
 Ev (fun k=>gr17_Along.f k x.1 x.2.1 x.2.2.1 x.2.2.2.1 x.2.2.2.2.1 x.2.2.2.2.2 (en y).1 (en y).2.1 (en y).2.2 (en va).1 (en va).2.1 (en va).2.2 (en vb).1 (en vb).2.1 (en vb).2.2 (en ta).1 (en ta).2.1 (en ta).2.2 (en tb).1 (en tb).2.1 (en tb).2.2) ((tv (tst x y vals tans dirs)).1,(tv (tst x y vals tans dirs)).2.1,(tv (tst x y vals tans dirs)).2.2,(tst x y vals tans dirs).1):=by
 obtain ⟨op,a,b,q⟩:=x
 dsimp only at *
 have c:op=3∨op=4∨op=5∨op=6∨op=7∨op=8∨op=9∨op=10:=by omega
 subst ea eb eta etb
 rcases c with rfl | rfl | rfl | rfl | rfl | rfl | rfl | rfl
 · exact Ev.ifp rfl (Ev.ifp (by first | exact len2a _ _ | exact len2b _ _) (Ev.bind (ref07_Neg_e hta (by omega)) (Ev.same rfl)))
 · exact Ev.ifn (by decide) (Ev.ifp rfl (Ev.ifp (by first | exact len2a _ _ | exact len2b _ _) (Ev.ifp (by first | exact len2a _ _ | exact len2b _ _) (Ev.bind (ref07_Add_e hta htb (by omega) (by omega)) (Ev.same rfl)))))
 · exact Ev.ifn (by decide) (Ev.ifn (by decide) (Ev.ifp rfl (Ev.ifp (by first | exact len2a _ _ | exact len2b _ _) (Ev.ifp (by first | exact len2a _ _ | exact len2b _ _) (Ev.bind (ref07_Sub_e hta htb (by omega) (by omega)) (Ev.same rfl))))))
 · exact Ev.ifn (by decide) (Ev.ifn (by decide) (Ev.ifn (by decide) (Ev.ifp rfl (Ev.ifp (by first | exact len2a _ _ | exact len2b _ _) (Ev.ifp (by first | exact len2a _ _ | exact len2b _ _) (Ev.bind (ref07_Mul_e hta hvb (by omega) (by omega)) (Ev.ifp (by first | exact len2a _ _ | exact len2b _ _) (Ev.ifp (by first | exact len2a _ _ | exact len2b _ _) (Ev.bind (ref07_Mul_e hva htb (by omega) (by omega)) (Ev.bind (ref07_Add_e (Bd_mul hta hvb) (Bd_mul hva htb) (by omega) (by omega)) (Ev.same rfl)))))))))))
 · exact Ev.ifn (by decide) (Ev.ifn (by decide) (Ev.ifn (by decide) (Ev.ifn (by decide) (Ev.ifn (by decide) (Ev.ifp (by first | exact len2a _ _ | exact len2b _ _) (Ev.ifp (by first | exact len2a _ _ | exact len2b _ _) (Ev.ifp rfl (Ev.ifp (by first | exact len2a _ _ | exact len2b _ _) (Ev.bind (ref07_Mul_e hy htb (by omega) (by omega)) (Ev.bind (ref07_Sub_e hta (Bd_mul hy htb) (by omega) (by omega)) (Ev.ifp (by first | exact len2a _ _ | exact len2b _ _) (Ev.step (fun k=>gr17_Along.j15.eq_2 ..) (Ev.ifn (by decide) (ref17_qd (Bd_sub hta (Bd_mul hy htb)) hvb (by omega) (by omega)))))))))))))))
 · exact Ev.ifn (by decide) (Ev.ifn (by decide) (Ev.ifn (by decide) (Ev.ifn (by decide) (Ev.ifn (by decide) (Ev.ifp (by first | exact len2a _ _ | exact len2b _ _) (Ev.ifp (by first | exact len2a _ _ | exact len2b _ _) (Ev.ifn (by decide) (Ev.step (fun k=>gr17_Along.j15.eq_2 ..) (Ev.ifp rfl (Ev.bind (ref17_twice_c hy (by omega)) (ref17_qd hta (Bd_add hy hy) (by omega) (by omega))))))))))))
 · exact Ev.ifn (by decide) (Ev.ifn (by decide) (Ev.ifn (by decide) (Ev.ifn (by decide) (Ev.ifp rfl (Ev.ifp (by first | exact len2a _ _ | exact len2b _ _) (Ev.bind (ref07_Mul_e hta hy (by omega) (by omega)) (Ev.same rfl)))))))
 · exact Ev.ifn (by decide) (Ev.ifn (by decide) (Ev.ifn (by decide) (Ev.ifn (by decide) (Ev.ifn (by decide) (Ev.ifp (by first | exact len2a _ _ | exact len2b _ _) (Ev.ifp (by first | exact len2a _ _ | exact len2b _ _) (Ev.ifn (by decide) (Ev.step (fun k=>gr17_Along.j15.eq_2 ..) (Ev.ifn (by decide) (ref17_qd hta hva (by omega) (by omega)))))))))))
theorem en_zero:Rq 0 1=en 0:=rfl
theorem ref17_l0 {l:List I6} {vals dirs:List Rat} (hf:FitL l) (hs : ∀ x∈l,ShI x) (hl:l.length≤1000000) (hlv:vals.length=l.length) (hd1 : ∀ x∈l,x.1=1→x.2.1<dirs.length) (hv:BdL 4096 vals) (hd:BdL 4096 dirs) (d:Nat) : ∀ (i:Nat) (out:List Rat),i+d=l.length→out.length=i→BdL 4096 out →
 Ev (fun k=>gr17_Rules.l0 k l (vals.map en) (dirs.map en) (out.map en) (l.length:Int) i) (exO (tal vals dirs (l.drop i) i out)):=by
 induction d with
 | zero =>
   intro i out h1 h2 h3
   rw [List.drop_of_length_le (by omega)]
   exact Ev.step (fun k=>gr17_Rules.l0.eq_2 ..) (Ev.ifn (by omega) (Ev.same rfl))
 | succ d ih =>
   intro i out h1 h2 h3
   rw [drop_I6 (by omega)]
   have ew:wrap64 ((i:Int)+1)=((i+1:Nat):Int):=by rw [w64_id (by omega) (by omega)];omega
   have fx:FitsP (l.getD i zI) out.length:=by rw [h2];exact hf i (by omega)
   have mx:l.getD i zI∈l:=by rw [getD_of (by omega)];exact List.getElem_mem _
   have dx:=hd1 _ mx
   have lv:=len_en vals
   have lo:=len_en out
   have ld:=len_en dirs
   have byi:Bd 4096 (gq vals i):=gq_Bd hv (by omega) (by omega)
   have B:=tst_Bd (y:=gq vals i) (vals:=vals) (dirs:=dirs) fx (by omega) dx hv h3 hd byi
   have c:=op_of fx
   refine Ev.step (fun k=>gr17_Rules.l0.eq_2 ..) (Ev.ifp (by omega) (Ev.ifp (by omega) (Ev.ifp (by omega) (Ev.bind (ref07_Of_c (n:=0) (by omega) (by omega)) ?_))))
   rw [rd_I6,en_zero]
   have E:tal vals dirs (l.getD i zI::l.drop (i+1)) i out=if (tst (l.getD i zI) (gq vals i) vals out dirs).1=0 then (if rb (tst (l.getD i zI) (gq vals i) vals out dirs).2>4096 then ([],(i:Int),5) else tal vals dirs (l.drop (i+1)) (i+1) (out++ [(tst (l.getD i zI) (gq vals i) vals out dirs).2])) else ([],(i:Int),(tst (l.getD i zI) (gq vals i) vals out dirs).1):=rfl
   rw [E]
   clear E
   have J:Ev (fun k=>gr17_Rules.j12 k l (vals.map en) (dirs.map en) (out.map en) i (tst (l.getD i zI) (gq vals i) vals out dirs).1 (l.length:Int) i (tv (tst (l.getD i zI) (gq vals i) vals out dirs)).1 (tv (tst (l.getD i zI) (gq vals i) vals out dirs)).2.1 (tv (tst (l.getD i zI) (gq vals i) vals out dirs)).2.2) (exO (if (tst (l.getD i zI) (gq vals i) vals out dirs).1=0 then (if rb (tst (l.getD i zI) (gq vals i) vals out dirs).2>4096 then ([],(i:Int),5) else tal vals dirs (l.drop (i+1)) (i+1) (out++ [(tst (l.getD i zI) (gq vals i) vals out dirs).2])) else ([],(i:Int),(tst (l.getD i zI) (gq vals i) vals out dirs).1))):=by
    generalize tst (l.getD i zI) (gq vals i) vals out dirs=r at *
    obtain ⟨e,v⟩:=r
    dsimp only at *
    refine Ev.step (fun k=>gr17_Rules.j12.eq_2 ..) ?_
    by_cases he:e=0
    · have B8:=B he
      subst he
      rw [if_pos rfl]
      have esv:tv (0,v)=en v:=rfl
      rw [esv]
      refine Ev.ifp rfl (Ev.bind (ref08_Bits_e B8 (by omega)) ?_)
      by_cases hb:rb v>4096
      · rw [if_pos hb]
        refine Ev.ifp hb (Ev.step (fun k=>gr17_Rules.j14.eq_2 ..) (Ev.ifn (by decide) (Ev.same rfl)))
      · rw [if_neg hb]
        refine Ev.ifn hb (Ev.step (fun k=>gr17_Rules.j14.eq_2 ..) (Ev.ifp rfl (Ev.ifp (by rw [List.length_map];omega) ?_)))
        have:=ih (i+1) (out++ [v]) (by omega) (by simp;omega) (BdL_snoc h3 (rb_Bd (by omega)))
        rw [ew]
        rw [← map_snoc] at this
        exact this
    · rw [if_neg he]
      refine Ev.ifn he (Ev.step (fun k=>gr17_Rules.j14.eq_2 ..) (Ev.ifn he (Ev.same rfl)))
   generalize l.getD i zI=x at *
   have K:(ari x.1=0→Ev (fun k=>gr17_Rules.j10 k l (vals.map en) (dirs.map en) (out.map en) i 0 (l.length:Int) i x.1 x.2.1 x.2.2.1 x.2.2.2.1 x.2.2.2.2.1 x.2.2.2.2.2 (tv (tst x (gq vals i) vals out dirs)).1 (tv (tst x (gq vals i) vals out dirs)).2.1 (tv (tst x (gq vals i) vals out dirs)).2.2) (exO (if (tst x (gq vals i) vals out dirs).1=0 then (if rb (tst x (gq vals i) vals out dirs).2>4096 then ([],(i:Int),5) else tal vals dirs (l.drop (i+1)) (i+1) (out++ [(tst x (gq vals i) vals out dirs).2])) else ([],(i:Int),(tst x (gq vals i) vals out dirs).1)))):=by
    intro h0
    refine Ev.step (fun k=>gr17_Rules.j10.eq_2 ..) (Ev.bind (ref15_Arity_c x.1) (Ev.ifn (by omega) ?_))
    have ac:=ari_cases x.1
    have:(tst x (gq vals i) vals out dirs).1=0:=by
     unfold tst
     rcases (show x.1=1∨x.1=2 by omega) with h | h
     · rw [if_pos h]
     · rw [if_neg (by omega),if_pos h]
    rw [this] at J
    rw [this]
    exact J
   have ac:=ari_cases x.1
   by_cases o1:x.1=1
   · have e:tst x (gq vals i) vals out dirs=(0,gq dirs x.2.1):=by unfold tst;rw [if_pos o1]
     rw [e] at K ⊢
     refine Ev.ifp o1 (Ev.ifp (by omega) (Ev.ifp (by have:=dx o1;omega) ?_))
     rw [rd_en (l:=dirs) (a:=x.2.1) (by omega) (dx o1)]
     exact K (by omega)
   by_cases o2:x.1=2
   · have e:tst x (gq vals i) vals out dirs=(0,0):=by unfold tst;rw [if_neg o1,if_pos o2]
     rw [e] at K ⊢
     exact Ev.ifn o1 (K (by omega))
   refine Ev.ifn o1 (Ev.step (fun k=>gr17_Rules.j10.eq_2 ..) (Ev.bind (ref15_Arity_c x.1) (Ev.ifp (by omega) (Ev.ifp (by omega) (Ev.ifp (by omega) (Ev.ifp (by omega) (Ev.ifp (by omega) (Ev.ifp (by omega) (Ev.ifp (by omega) (Ev.ifp (by omega) (Ev.ifp (by omega) ?_)))))))))))
   have bva:Bd 4096 (gq vals x.2.1):=gq_Bd hv (by omega) (by omega)
   have bvb:Bd 4096 (gq vals x.2.2.1):=gq_Bd hv (by omega) (by omega)
   have bta:Bd 4096 (gq out x.2.1):=gq_Bd h3 (by omega) (by omega)
   have btb:Bd 4096 (gq out x.2.2.1):=gq_Bd h3 (by omega) (by omega)
   rw [rd_en (l:=vals) (a:=i) (by omega) (by omega),rd_en (l:=vals) (a:=x.2.1) (by omega) (by omega),rd_en (l:=vals) (a:=x.2.2.1) (by omega) (by omega),rd_en (l:=out) (a:=x.2.1) (by omega) (by omega),rd_en (l:=out) (a:=x.2.2.1) (by omega) (by omega)]
   exact Ev.bind (ref17_Along_c (x:=x) (by omega) rfl rfl rfl rfl byi bva bvb bta btb) J

def tOf (l:List I6) (inn dirs forms:List Rat):List Rat × List Rat × Int × Int :=
 if (exS l inn forms).2.2=0 then (if (tal (exS l inn forms).1 dirs l 0 []).2.2=0 then ((exS l inn forms).1,(tal (exS l inn forms).1 dirs l 0 []).1,0,0) else ([],[],(tal (exS l inn forms).1 dirs l 0 []).2.1,(tal (exS l inn forms).1 dirs l 0 []).2.2))
 else ([],[],(exS l inn forms).2.1,(exS l inn forms).2.2)
def tOO (r:List Rat × List Rat × Int × Int):List R3 × List R3 × Int × Int:=(r.1.map en,r.2.1.map en,r.2.2.1,r.2.2.2)
theorem of_right_l {l0:List I6} {a1 a2 a3:List R3} {l:List R3} (hl:l.length≤1000000) (hs : ∀ x∈l,SmR x) {R:List R3 × List R3 × Int × Int} (good:(∀ x∈l,RV x)→Ev (fun k=>(evals_Exact.f k l0 a1 a3).bind fun bt2=>(if bt2.2.2=0 then (tangent_Of.l1 k a2 bt2.1 [] l0 (l0.length:Int) 0) else (some (([]:List (Bool × (List Int) × List Int)),([]:List (Bool × (List Int) × List Int)),bt2.2.1,bt2.2.2)))) R) (bad : ¬ (∀ x∈l,RV x)→R=([],[],0,1)) (d:Nat) : ∀ i:Nat,i+d=l.length→(∀ j:Nat,j<i→RV (l.getD j zR))→Ev (fun k=>tangent_Of.l0 k l0 a1 a2 a3 l (l.length:Int) i) R:=by
 induction d with
 | zero =>
   intro i h hj
   refine Ev.step (fun k=>tangent_Of.l0.eq_2 ..) (Ev.ifn (by omega) (good ?_))
   exact RVs_all.1 fun j _ h2=>hj j (by omega)
 | succ d ih =>
   intro i h hj
   have sm:SmR (l.getD i zR):=by rw [getD_of (by omega)];exact hs _ (List.getElem_mem _)
   obtain ⟨r1,h1,g1⟩:=rat_Right_c (l.getD i zR).1 ⟨sm.1,by have:=sm.2.2.1;omega⟩ ⟨sm.2.1,by have:=sm.2.2.2;omega⟩ sm.2.2.1 sm.2.2.2
   have ew:wrap64 ((i:Int)+1)=((i+1:Nat):Int):=by rw [w64_id (by omega) (by omega)];omega
   refine Ev.step (fun k=>tangent_Of.l0.eq_2 ..) (Ev.ifp (by omega) (Ev.ifp (by omega) (Ev.ifp (by omega) ?_)))
   rw [rd_R3]
   refine Ev.bind h1 ?_
   cases r1
   · refine Ev.ifn (by decide) (Ev.same ?_)
     rw [bad]
     intro k
     have:=RVs_all.2 k i (by omega) (by omega)
     exact absurd (g1.2 this) (by decide)
   · refine Ev.ifp rfl ?_
     rw [ew]
     refine ih (i+1) (by omega) fun j hj2=> ?_
     rcases (show j=i∨j<i by omega) with rfl | h3
     · exact g1.1 rfl
     · exact hj j h3
theorem Of_ok {l:List I6} {inn dirs forms:List R3} (hl:l.length≤60) (hs : ∀ x∈l,ShI x) (ld:dirs.length≤1000) (hd : ∀ x∈dirs,SmR x∧(RV x→Bd 4096 (de x))) (hlen:inn.length=dirs.length) (hr : ∀ x∈dirs,RV x) (f1:FitL l) (e1:Ev (fun k=>evals_Exact.f k l inn forms) (exO (exS l (inn.map de) (forms.map de)))) :
 Ev (fun k=>tangent_Of.f k l inn dirs forms) (tOO (tOf l (inn.map de) (dirs.map de) (forms.map de))):=by
 have hdl:BdL 4096 (dirs.map de):=by
  intro y hy
  obtain ⟨x,hx,rfl⟩:=List.mem_map.1 hy
  exact (hd x hx).2 (hr x hx)
 have edirs:(dirs.map de).map en=dirs:=list_en (fun x hx=>⟨(hd x hx).1.1,(hd x hx).1.2.1⟩) hr
 have hv:BdL 4096 (exS l (inn.map de) (forms.map de)).1:=exl_Bd l 0 [] 0 (BdL_nil _)
 have hlv:=(exl_len (inn:=inn.map de) (forms:=forms.map de) l 0 [] 0).1
 have hin:=exl_inputs (inn:=inn.map de) (forms:=forms.map de) l 0 [] 0
 refine Ev.ifp (by omega) (of_right_l (by omega) (fun x hx=>(hd x hx).1) (fun _=>Ev.bind e1 ?_) (fun k=>absurd hr k) dirs.length 0 (by omega) (fun j hj=>absurd hj (by omega)))
 unfold tOf
 change (exS l (inn.map de) (forms.map de)).2.2=0→_ at hlv
 change (exS l (inn.map de) (forms.map de)).2.2=0→_ at hin
 by_cases he:(exS l (inn.map de) (forms.map de)).2.2=0
 · rw [if_pos he]
   refine Ev.ifp he ?_
   have T:=of_l1 (dirs:=dirs.map de) (vals:=(exS l (inn.map de) (forms.map de)).1) f1 hs (by omega) (by have h9:=(hlv he).1;rw [List.length_nil,Nat.zero_add] at h9;exact h9) (fun x hx h1=>by have:=hin he x hx h1;rw [List.length_map] at this ⊢;omega) hv hdl l.length 0 [] (by omega) rfl (BdL_nil _)
   rw [edirs,List.drop_zero] at T
   refine Ev.eqr T ?_
   split<;>rfl
 · rw [if_neg he]
   exact Ev.ifn he (Ev.same rfl)
theorem Of_both {l:List I6} {inn dirs forms:List R3} (hl:l.length≤60) (hs : ∀ x∈l,ShI x) (li:inn.length≤1000) (ld:dirs.length≤1000) (lf:forms.length≤1000) (hi : ∀ x∈inn,Sh3 x) (hd : ∀ x∈dirs,SmR x∧(RV x→Bd 4096 (de x))) (hF : ∀ x∈forms,Sh3 x) :
 (Ev (fun k=>tangent_Of.f k l inn dirs forms) ([],[],0,1)∧Ev (fun k=>gr17_Of.f k l inn dirs forms) ([],[],0,1)) ∨
 (FitL l∧(∀ x∈inn,RV x)∧(∀ x∈dirs,RV x)∧(∀ x∈forms,RV x)∧inn.length=dirs.length∧Ev (fun k=>tangent_Of.f k l inn dirs forms) (tOO (tOf l (inn.map de) (dirs.map de) (forms.map de)))∧Ev (fun k=>gr17_Of.f k l inn dirs forms) (tOO (tOf l (inn.map de) (dirs.map de) (forms.map de)))):=by
 have J':Ev (fun k=>gr17_Of.j2 k) ([],[],0,1):=Ev.step (fun k=>gr17_Of.j2.eq_2 ..) (Ev.same rfl)
 by_cases hlen:inn.length=dirs.length
 case neg=>exact .inl ⟨Ev.ifn (by omega) (Ev.same rfl),Ev.ifn (by omega) J'⟩
 obtain ⟨b2,B2,d2⟩:=ref16_Rats_c (l:=dirs) (by omega) (fun x hx=>(hd x hx).1)
 by_cases hr : ∀ x∈dirs,RV x
 case neg =>
  have eb:b2=false:=by
   cases b2
   · rfl
   · exact absurd (d2.1 rfl) hr
  subst eb
  exact .inl ⟨Ev.ifp (by omega) (of_right_l (by omega) (fun x hx=>(hd x hx).1) (fun k=>absurd k hr) (fun _=>rfl) dirs.length 0 (by omega) (fun j hj=>absurd hj (by omega))),Ev.ifp (by omega) (Ev.bind B2 (Ev.ifn (by decide) J'))⟩
 have eb:b2=true:=d2.2 hr
 subst eb
 have hdl:BdL 4096 (dirs.map de):=by
  intro y hy
  obtain ⟨x,hx,rfl⟩:=List.mem_map.1 hy
  exact (hd x hx).2 (hr x hx)
 have edirs:(dirs.map de).map en=dirs:=list_en (fun x hx=>⟨(hd x hx).1.1,(hd x hx).1.2.1⟩) hr
 rcases Exact_both hl hs li lf hi hF with ⟨e1,e2⟩ | ⟨f1,f2,f3,e1,e2⟩
 · exact .inl ⟨Ev.ifp (by omega) (of_right_l (by omega) (fun x hx=>(hd x hx).1) (fun _=>Ev.bind e1 (Ev.ifn (by decide) (Ev.same rfl))) (fun k=>absurd hr k) dirs.length 0 (by omega) (fun j hj=>absurd hj (by omega))),Ev.ifp (by omega) (Ev.bind B2 (Ev.ifp rfl (Ev.bind e2 (Ev.ifn (by decide) (Ev.same rfl)))))⟩
 · have hv:BdL 4096 (exS l (inn.map de) (forms.map de)).1:=exl_Bd l 0 [] 0 (BdL_nil _)
   have hlv:=(exl_len (inn:=inn.map de) (forms:=forms.map de) l 0 [] 0).1
   have hin:=exl_inputs (inn:=inn.map de) (forms:=forms.map de) l 0 [] 0
   refine .inr ⟨f1,f2,hr,f3,hlen, ?_, ?_⟩
   · exact Of_ok hl hs ld hd hlen hr f1 e1
   · refine Ev.ifp (by omega) (Ev.bind B2 (Ev.ifp rfl (Ev.bind e2 ?_)))
     unfold tOf
     change (exS l (inn.map de) (forms.map de)).2.2=0→_ at hlv
     change (exS l (inn.map de) (forms.map de)).2.2=0→_ at hin
     by_cases he:(exS l (inn.map de) (forms.map de)).2.2=0
     · rw [if_pos he]
       refine Ev.ifp he ?_
       have T:=ref17_l0 (dirs:=dirs.map de) (vals:=(exS l (inn.map de) (forms.map de)).1) f1 hs (by omega) (by have h9:=(hlv he).1;rw [List.length_nil,Nat.zero_add] at h9;exact h9) (fun x hx h1=>by have:=hin he x hx h1;rw [List.length_map] at this ⊢;omega) hv hdl l.length 0 [] (by omega) rfl (BdL_nil _)
       rw [edirs,List.drop_zero] at T
       refine Ev.bind T ?_
       by_cases ht:(tal (exS l (inn.map de) (forms.map de)).1 (dirs.map de) l 0 []).2.2=0
       · rw [if_pos ht]
         exact Ev.ifp ht (Ev.same rfl)
       · rw [if_neg ht]
         exact Ev.ifn ht (Ev.same rfl)
     · rw [if_neg he]
       exact Ev.ifn he (Ev.same rfl)
theorem Bd_fitB {n:Int} {x:Rat} (h:Bd n x) (hn:n≤100000000):FitB x.num x.den:=⟨h.1,by have:=h.2.1;omega,by have:=h.2.2;omega⟩
theorem rat_Add_eB {x y:Rat} {n m:Int} (hx:Bd n x) (hy:Bd m y) (hn:n≤100000000) (hm:m≤100000000):Ev (fun k=>rat_Add.f k (en x).1 (en x).2.1 (en x).2.2 (en y).1 (en y).2.1 (en y).2.2) (en (x+y)):=Ev.eqr (rat_Add_B (Bd_fitB hx hn) (Bd_fitB hy hm)) (en_add x y)
theorem Rq_sg0 (t:Bool):Rq (sgI t 0) 1=en 0:=by cases t<;>rfl
theorem safe_nil:Ev (fun k=>rat_safe.f k []) [1]:=by
 have B:=nat_Bits_c (l:= []) ⟨Ws_nil,by simp⟩
 exact Ev.bind B (Ev.ifp rfl (Ev.same rfl))
theorem rat_Add_z {x:Rat} {n:Int} (hx:Bd n x) (hn:n≤100000000):Ev (fun k=>rat_Add.f k (en x).1 (en x).2.1 (en x).2.2 false [] []) (en 0):=by
 have hh:=hx.2
 have hd:=den_pos x
 have h0:=ab_nonneg x.num
 have z0:=bl_zero
 rw [en_parts]
 dsimp only
 have S:=rat_same_c (x:=x.den) (y:=0) (Int.le_of_lt hd) (by omega) (by omega) (by omega)
 rw [decide_eq_false (by omega),dg_zero] at S
 have M1:=prod_Mul_dg (x:=ab x.num) (y:=0) h0 (by omega) (by omega) (by omega)
 have M2:=prod_Mul_dg (x:=0) (y:=x.den) (by omega) (Int.le_of_lt hd) (by omega) (by omega)
 have M3:=prod_Mul_dg (x:=x.den) (y:=0) (Int.le_of_lt hd) (by omega) (by omega) (by omega)
 rw [Int.mul_zero,dg_zero] at M1 M3
 rw [Int.zero_mul,dg_zero] at M2
 obtain ⟨t,m,q1,q2,q3,q4⟩:=rat_sum_c (x:=0) (y:=0) (decide (x.num<0)) false (by omega) (by omega) (by omega) (by omega)
 rw [dg_zero] at q1
 have hm:m=0:=by
  unfold sgI at q4
  cases t<;>cases decide (x.num<0)<;>simp at q4<;>omega
 subst hm
 rw [dg_zero] at q1
 have L:=lowest_dg (n:=0) (d:=1) t (by omega) (by omega) (by omega) (by decide)
 rw [dg_zero,dg_one,Rq_sg0] at L
 exact Ev.bind S (Ev.ifn (by decide) (Ev.bind M1 (Ev.bind M2 (Ev.bind q1 (Ev.bind M3 (Ev.bind safe_nil (Ev.bind L (Ev.same rfl))))))))
theorem rat_Mul_z {y:Rat} {n:Int} (hy:Bd n y) (hn:n≤100000000):Ev (fun k=>rat_Mul.f k false [] [] (en y).1 (en y).2.1 (en y).2.2) (en 0):=by
 have hh:=hy.2
 have hd:=den_pos y
 have h0:=ab_nonneg y.num
 have z0:=bl_zero
 have b1:bl 1=1:=by decide
 have l1:=dg_len_bl (y.den:Int)
 have l2:=dg_len_bl (ab y.num)
 rw [en_parts]
 dsimp only
 have R1:=gcd_Reduce_c (a:= []) (b:=dg y.den) ⟨Ws_nil,by simp⟩ (Wl_dg (by omega)) (by simp) (by omega)
 rw [show nv []=0 from rfl,nv_dg (Int.le_of_lt hd),gc_comm,gc_zero (Int.le_of_lt hd),Int.zero_ediv,Int.ediv_self (by omega),dg_zero,dg_one] at R1
 have R2:=gcd_Reduce_c (a:=dg (ab y.num)) (b:= [1]) (Wl_dg (by omega)) ⟨Ws_one (by unfold U;omega),by simp⟩ (by omega) (by simp)
 rw [nv_dg h0,show nv [1]=1 from rfl,gc_one h0,Int.ediv_one,Int.ediv_one,dg_one] at R2
 have M1:=prod_Mul_dg (x:=0) (y:=ab y.num) (by omega) h0 (by omega) (by omega)
 rw [Int.zero_mul,dg_zero] at M1
 have M2:=prod_Mul_dg (x:=1) (y:=1) (by omega) (by omega) (by omega) (by omega)
 rw [Int.one_mul,dg_one] at M2
 have L:=lowest_dg (n:=0) (d:=1) (false !=decide (y.num<0)) (by omega) (by omega) (by omega) (by omega)
 rw [dg_zero,dg_one,Rq_sg0] at L
 exact Ev.bind (rat_safe_c hd (by omega)) (Ev.bind R1 (Ev.bind safe_nil (Ev.bind R2 (Ev.bind M1 (Ev.bind M2 (Ev.bind L (Ev.same rfl)))))))
def gv (l:List Rat) (a:Int) (x:Rat):List Rat:=l.set a.toNat (gq l a+x)
theorem gv_len (l:List Rat) (a:Int) (x:Rat):(gv l a x).length=l.length:=List.length_set
def Bc (c:Nat) (l:List Rat):Prop:=BdL (12290*c) l
theorem gv_Bc {c:Nat} {l:List Rat} {a:Int} {x:Rat} (h:Bc c l) (h0:0≤a) (h1:a<l.length) (hx:Bd 12289 x):Bc (c+1) (gv l a x):=by
 intro y hy
 rcases List.mem_or_eq_of_mem_set hy with k | k
 · exact (h y k).mono (by omega)
 · rw [k]
   exact (Bd_add (gq_Bd h h0 h1) hx).mono (by omega)
theorem Bc_mono {c d:Nat} {l:List Rat} (h:Bc c l) (hd:c≤d):Bc d l:=h.mono (by omega)
def bst (x:I6) (i:Nat) (vals has ins:List Rat):Int × List Rat × List Rat :=
 if x.1=1 then (0,has,gv ins x.2.1 (gq has i))
 else if x.1=2 then (0,has,ins)
 else if x.1=3 then (0,gv has x.2.1 (-(gq has i)),ins)
 else if x.1=4 then (0,gv (gv has x.2.1 (gq has i)) x.2.2.1 (gq has i),ins)
 else if x.1=5 then (0,gv (gv has x.2.1 (gq has i)) x.2.2.1 (-(gq has i)),ins)
 else if x.1=6 then (0,gv (gv has x.2.1 (gq has i*gq vals x.2.2.1)) x.2.2.1 (gq has i*gq vals x.2.1),ins)
 else if x.1=7 then (if gq vals x.2.2.1=0 then (4,[],[]) else (0,gv (gv has x.2.1 (gq has i/gq vals x.2.2.1)) x.2.2.1 (-(gq has i/gq vals x.2.2.1*gq vals i)),ins))
 else if x.1=8 then (if gq vals i+gq vals i=0 then (4,[],[]) else (0,gv has x.2.1 (gq has i/(gq vals i+gq vals i)),ins))
 else if x.1=9 then (0,gv has x.2.1 (gq has i*gq vals i),ins)
 else (if gq vals x.2.1=0 then (4,[],[]) else (0,gv has x.2.1 (gq has i/gq vals x.2.1),ins))
def bkl (vals:List Rat) (l:List I6):Nat→List Rat→List Rat→List Rat × Int × Int
 | 0,has,ins=>(ins,0,0)
 | n+1,has,ins =>
   if rb (gq has n)>4096 then ([],n,5)
   else if (bst (l.getD n zI) n vals has ins).1=0 then bkl vals l n (bst (l.getD n zI) n vals has ins).2.1 (bst (l.getD n zI) n vals has ins).2.2
   else ([],n,(bst (l.getD n zI) n vals has ins).1)
def otl (m:Int):List Int→List Rat→List Rat→Option (List Rat)
 | o::os,c::cs,has=>if o<0∨o≥m then none else otl m os cs (gv has o c)
 | _,_,has=>some has
def nI:List I6→Int→Int
 | [],m=>m
 | x::l,m=>nI l (if x.1=1∧x.2.1<65536∧x.2.1≥m then x.2.1+1 else m)
theorem nI_le : ∀ (l:List I6) (m:Int),m≤nI l m
 | [],m=>Int.le_refl m
 | x::l,m=>by
   refine Int.le_trans ?_ (nI_le l _)
   split<;>omega
theorem nI_has : ∀ (l:List I6) (m:Int) (x:I6),x∈l→x.1=1→x.2.1<65536→x.2.1<nI l m
 | y::l,m,x,hx,h1,h2=>by
   rcases List.mem_cons.1 hx with rfl | hx
   · have:=nI_le l (if x.1=1∧x.2.1<65536∧x.2.1≥m then x.2.1+1 else m)
     show x.2.1<nI l _
     split at this
     · rw [if_pos ‹_›];omega
     · rename_i h;rw [if_neg h];omega
   · exact nI_has l _ x hx h1 h2
theorem nI_max : ∀ (l:List I6) (m b:Int),m≤b→(∀ x∈l,x.1=1→x.2.1<b)→nI l m≤b
 | [],m,b,h,_=>h
 | x::l,m,b,h,hx=>by
   refine nI_max l _ b ?_ (fun y hy=>hx y (List.mem_cons_of_mem _ hy))
   split
   · have:=hx x (List.mem_cons_self ..) (by omega);omega
   · exact h
theorem line_Inputs_l {l:List I6} (hl:l.length≤1000000) (d:Nat) : ∀ (i:Nat) (m:Int),i+d=l.length→0≤m→m≤65536→Ev (fun k=>line_Inputs.l0 k m l (l.length:Int) i) (nI (l.drop i) m):=by
 induction d with
 | zero =>
   intro i m h h0 h1
   rw [List.drop_of_length_le (by omega)]
   exact Ev.step (fun k=>line_Inputs.l0.eq_2 ..) (Ev.ifn (by omega) (Ev.same rfl))
 | succ d ih =>
   intro i m h h0 h1
   rw [drop_I6 (by omega)]
   have ew:wrap64 ((i:Int)+1)=((i+1:Nat):Int):=by rw [w64_id (by omega) (by omega)];omega
   refine Ev.step (fun k=>line_Inputs.l0.eq_2 ..) (Ev.ifp (by omega) (Ev.ifp (by omega) (Ev.ifp (by omega) ?_)))
   rw [rd_I6,ew]
   clear ew
   show Ev _ (nI (l.drop (i+1)) _)
   generalize l.getD i zI=x
   by_cases a1:x.1=1
   · refine Ev.ifp a1 ?_
     by_cases a2:x.2.1≥m
     · refine Ev.ifp a2 ?_
       by_cases a3:x.2.1<65536
       · rw [if_pos ⟨a1,a3,a2⟩]
         refine Ev.ifp a3 ?_
         rw [w64_id (by omega) (by omega)]
         exact ih (i+1) _ (by omega) (by omega) (by omega)
       · rw [if_neg (fun k=>a3 k.2.1)]
         exact Ev.ifn a3 (ih (i+1) _ (by omega) h0 h1)
     · rw [if_neg (fun k=>a2 k.2.2)]
       exact Ev.ifn a2 (ih (i+1) _ (by omega) h0 h1)
   · rw [if_neg (fun k=>a1 k.1)]
     exact Ev.ifn a1 (ih (i+1) _ (by omega) h0 h1)
theorem line_Inputs_c {l:List I6} (hl:l.length≤1000000):Ev (fun k=>line_Inputs.f k l) (nI l 0):=line_Inputs_l hl l.length 0 0 (by omega) (by omega) (by omega)

theorem hf_at {l:List I6} (hf:FitL l) {j:Nat} (hj:j<l.length):FitsP l[j] j:=by
 have:=hf j hj
 rwa [getD_of hj] at this

theorem give_c {V I:List R3} {has:List Rat} {a:Int} {x:Rat} {c:Nat} (h:Bc c has) (hc:c≤800) (h0:0≤a) (h1:a<has.length) (hx:Bd 12289 x):Ev (fun k=>tangent_sweep_give.f k V (has.map en) I a (en x).1 (en x).2.1 (en x).2.2) (V,(gv has a x).map en,I):=by
 have lh:=len_en has
 refine Ev.ifp h0 (Ev.ifp (by omega) ?_)
 rw [rd_en h0 h1]
 refine Ev.bind (rat_Add_eB (gq_Bd h h0 h1) hx (by omega) (by omega)) (Ev.same ?_)
 unfold gv
 rw [List.map_set]
theorem give_z {V I:List R3} {has:List Rat} {a:Int} {c:Nat} (h:Bc c has) (hc:c≤800) (h0:0≤a) (h1:a<has.length):Ev (fun k=>tangent_sweep_give.f k V (has.map en) I a false [] []) (V,(has.set a.toNat 0).map en,I):=by
 have lh:=len_en has
 refine Ev.ifp h0 (Ev.ifp (by omega) ?_)
 rw [rd_en h0 h1]
 refine Ev.bind (rat_Add_z (gq_Bd h h0 h1) (by omega)) (Ev.same ?_)
 rw [List.map_set]
theorem set0_Bc {c:Nat} {l:List Rat} (h:Bc c l) (n:Nat):Bc (c+1) (l.set n 0):=by
 intro y hy
 rcases List.mem_or_eq_of_mem_set hy with k | k
 · exact (h y k).mono (by omega)
 · rw [k]
   exact Bd_zero (by omega)
theorem Bd_neg_zero:Bd 12289 (-(0:Rat)):=Bd_neg (Bd_zero (by omega))
theorem sweep_c {x:I6} {i:Nat} {vals has ins:List Rat} {c:Nat} (hf:FitsP x i) (hi:i<has.length) (hv:vals.length=has.length) (hin:x.1=1→x.2.1<ins.length) (bv:BdL 4096 vals) (bh:Bc c has) (bi:Bc c ins) (hc:c≤700) (hg:Bd 4096 (gq has i)) :
 ∃ H I,Ev (fun k=>tangent_sweep_step.f k (vals.map en) (has.map en) (ins.map en) x.1 x.2.1 x.2.2.1 x.2.2.2.1 x.2.2.2.2.1 x.2.2.2.2.2 i) ((bst x i vals has ins).1,vals.map en,H,I)∧((bst x i vals has ins).1=0→H=(bst x i vals has ins).2.1.map en∧I=(bst x i vals has ins).2.2.map en∧Bc (c+2) (bst x i vals has ins).2.1∧Bc (c+2) (bst x i vals has ins).2.2∧(bst x i vals has ins).2.1.length=has.length∧(bst x i vals has ins).2.2.length=ins.length):=by
 have cc:=op_of hf
 have lh:=len_en has
 have lv:=len_en vals
 have li:=len_en ins
 have rg:=rd_en (l:=has) (a:=(i:Int)) (by omega) (by omega)
 have ry:=rd_en (l:=vals) (a:=(i:Int)) (by omega) (by omega)
 have by0:Bd 4096 (gq vals i):=gq_Bd bv (by omega) (by omega)
 have g9:Bd 12289 (gq has i):=hg.mono (by omega)
 obtain ⟨op,a,b,q⟩:=x
 dsimp only at cc hin ⊢
 rcases cc with ⟨rfl,h0,h1⟩ | ⟨rfl,hv,h0,h1⟩ | ⟨ho3,h0,h1,hb⟩ | ⟨ho2,h0,h1,hb0,hb1⟩
 · have ha:=hin rfl
   refine ⟨_,_,Ev.ifp (by omega) (Ev.ifp (by omega) (Ev.ifp rfl (Ev.ifp h0 (Ev.ifp (by omega) ?_)))),fun _=>⟨rfl,rfl,Bc_mono bh (by omega),Bc_mono (gv_Bc bi h0 ha g9) (by omega),rfl,gv_len _ _ _⟩⟩
   rw [rd_en h0 ha,rg]
   refine Ev.bind (rat_Add_eB (gq_Bd bi h0 ha) g9 (by omega) (by omega)) (Ev.same ?_)
   have em:(gv ins a (gq has i)).map en=(ins.map en).set a.toNat (en (gq ins a+gq has i)):=by unfold gv;rw [List.map_set]
   show some _=some (0,vals.map en,has.map en,(gv ins a (gq has i)).map en)
   rw [em]
 · exact ⟨_,_,Ev.ifp (by omega) (Ev.ifp (by omega) (Ev.ifn (by decide) (Ev.ifn (by decide) (Ev.ifn (by decide) (Ev.ifn (by decide) (Ev.ifn (by decide) (Ev.ifn (by decide) (Ev.ifn (by decide) (Ev.ifn (by decide) (Ev.ifn (by decide) (Ev.same rfl))))))))))),fun _=>⟨rfl,rfl,Bc_mono bh (by omega),Bc_mono bi (by omega),rfl,rfl⟩⟩
 · have ha:a<has.length:=by omega
   have bva:Bd 4096 (gq vals a):=gq_Bd bv h0 (by omega)
   have rva:=rd_en (l:=vals) h0 (by omega)
   rcases ho3 with rfl | rfl | rfl | rfl
   · have hn:Bd 12289 (-(gq has i)):=Bd_neg g9
     refine ⟨_,_,Ev.ifp (by omega) (Ev.ifp (by omega) (Ev.ifn (by decide) (Ev.ifp rfl ?_))),fun _=>⟨rfl,rfl,Bc_mono (gv_Bc bh h0 ha hn) (by omega),Bc_mono bi (by omega),gv_len _ _ _,rfl⟩⟩
     rw [rg]
     exact Ev.bind (rat_Neg_e hg (by omega)) (Ev.bind (give_c bh (by omega) h0 ha hn) (Ev.same rfl))
   · have e:bst (8,a,b,q) i vals has ins=if gq vals i+gq vals i=0 then (4,[],[]) else (0,gv has a (gq has i/(gq vals i+gq vals i)),ins):=rfl
     rw [e]
     by_cases hz:gq vals i+gq vals i=0
     · rw [if_pos hz]
       refine ⟨(has.set a.toNat 0).map en,ins.map en,Ev.ifp (by omega) (Ev.ifp (by omega) (Ev.ifn (by decide) (Ev.ifn (by decide) (Ev.ifn (by decide) (Ev.ifn (by decide) (Ev.ifn (by decide) (Ev.ifn (by decide) (Ev.ifp rfl (Ev.ifp (by omega) ?_))))))))),fun k=>absurd k (show ¬ (4:Int)=0 by decide)⟩
       rw [rg,ry]
       have B:=by_c hg (Bd_add by0 by0) (by omega) (by omega)
       unfold qd0 at B
       rw [if_pos hz] at B
       exact Ev.bind (twice_c by0 (by omega)) (Ev.bind B (Ev.bind (give_z bh (by omega) h0 ha) (Ev.same rfl)))
     · rw [if_neg hz]
       have hn:Bd 12289 (gq has i/(gq vals i+gq vals i)):=(Bd_div hg (Bd_add by0 by0) hz).mono (by omega)
       refine ⟨_,_,Ev.ifp (by omega) (Ev.ifp (by omega) (Ev.ifn (by decide) (Ev.ifn (by decide) (Ev.ifn (by decide) (Ev.ifn (by decide) (Ev.ifn (by decide) (Ev.ifn (by decide) (Ev.ifp rfl (Ev.ifp (by omega) ?_))))))))),fun _=>⟨rfl,rfl,Bc_mono (gv_Bc bh h0 ha hn) (by omega),Bc_mono bi (by omega),gv_len _ _ _,rfl⟩⟩
       rw [rg,ry]
       have B:=by_c hg (Bd_add by0 by0) (by omega) (by omega)
       unfold qd0 at B
       rw [if_neg hz] at B
       exact Ev.bind (twice_c by0 (by omega)) (Ev.bind B (Ev.bind (give_c bh (by omega) h0 ha hn) (Ev.same rfl)))
   · have hn:Bd 12289 (gq has i*gq vals i):=(Bd_mul hg by0).mono (by omega)
     refine ⟨_,_,Ev.ifp (by omega) (Ev.ifp (by omega) (Ev.ifn (by decide) (Ev.ifn (by decide) (Ev.ifn (by decide) (Ev.ifn (by decide) (Ev.ifn (by decide) (Ev.ifn (by decide) (Ev.ifn (by decide) (Ev.ifp rfl (Ev.ifp (by omega) ?_)))))))))),fun _=>⟨rfl,rfl,Bc_mono (gv_Bc bh h0 ha hn) (by omega),Bc_mono bi (by omega),gv_len _ _ _,rfl⟩⟩
     rw [rg,ry]
     exact Ev.bind (rat_Mul_e hg by0 (by omega) (by omega)) (Ev.bind (give_c bh (by omega) h0 ha hn) (Ev.same rfl))
   · have e:bst (10,a,b,q) i vals has ins=if gq vals a=0 then (4,[],[]) else (0,gv has a (gq has i/gq vals a),ins):=rfl
     rw [e]
     by_cases hz:gq vals a=0
     · rw [if_pos hz]
       refine ⟨(has.set a.toNat 0).map en,ins.map en,Ev.ifp (by omega) (Ev.ifp (by omega) (Ev.ifn (by decide) (Ev.ifn (by decide) (Ev.ifn (by decide) (Ev.ifn (by decide) (Ev.ifn (by decide) (Ev.ifn (by decide) (Ev.ifn (by decide) (Ev.ifn (by decide) (Ev.ifp rfl (Ev.ifp h0 (Ev.ifp (by omega) ?_)))))))))))),fun k=>absurd k (show ¬ (4:Int)=0 by decide)⟩
       rw [rg,rva]
       have B:=by_c hg bva (by omega) (by omega)
       unfold qd0 at B
       rw [if_pos hz] at B
       exact Ev.bind B (Ev.bind (give_z bh (by omega) h0 ha) (Ev.same rfl))
     · rw [if_neg hz]
       have hn:Bd 12289 (gq has i/gq vals a):=(Bd_div hg bva hz).mono (by omega)
       refine ⟨_,_,Ev.ifp (by omega) (Ev.ifp (by omega) (Ev.ifn (by decide) (Ev.ifn (by decide) (Ev.ifn (by decide) (Ev.ifn (by decide) (Ev.ifn (by decide) (Ev.ifn (by decide) (Ev.ifn (by decide) (Ev.ifn (by decide) (Ev.ifp rfl (Ev.ifp h0 (Ev.ifp (by omega) ?_)))))))))))),fun _=>⟨rfl,rfl,Bc_mono (gv_Bc bh h0 ha hn) (by omega),Bc_mono bi (by omega),gv_len _ _ _,rfl⟩⟩
       rw [rg,rva]
       have B:=by_c hg bva (by omega) (by omega)
       unfold qd0 at B
       rw [if_neg hz] at B
       exact Ev.bind B (Ev.bind (give_c bh (by omega) h0 ha hn) (Ev.same rfl))
 · have ha:a<has.length:=by omega
   have hb:b<has.length:=by omega
   have bva:Bd 4096 (gq vals a):=gq_Bd bv h0 (by omega)
   have bvb:Bd 4096 (gq vals b):=gq_Bd bv hb0 (by omega)
   have rva:=rd_en (l:=vals) h0 (by omega)
   have rvb:=rd_en (l:=vals) hb0 (by omega)
   have two : ∀ {u v:Rat},Bd 12289 u→Bd 12289 v→Bc (c+2) (gv (gv has a u) b v)∧(gv (gv has a u) b v).length=has.length:=fun hu hv2=>⟨gv_Bc (gv_Bc bh h0 ha hu) hb0 (by rw [gv_len];exact hb) hv2,by rw [gv_len,gv_len]⟩
   rcases ho2 with rfl | rfl | rfl | rfl
   · refine ⟨_,_,Ev.ifp (by omega) (Ev.ifp (by omega) (Ev.ifn (by decide) (Ev.ifn (by decide) (Ev.ifp rfl ?_)))),fun _=>⟨rfl,rfl,(two g9 g9).1,Bc_mono bi (by omega),(two g9 g9).2,rfl⟩⟩
     rw [rg]
     exact Ev.bind (give_c bh (by omega) h0 ha g9) (Ev.bind (give_c (gv_Bc bh h0 ha g9) (by omega) hb0 (by rw [gv_len];exact hb) g9) (Ev.same rfl))
   · have hn:Bd 12289 (-(gq has i)):=Bd_neg g9
     refine ⟨_,_,Ev.ifp (by omega) (Ev.ifp (by omega) (Ev.ifn (by decide) (Ev.ifn (by decide) (Ev.ifn (by decide) (Ev.ifp rfl ?_))))),fun _=>⟨rfl,rfl,(two g9 hn).1,Bc_mono bi (by omega),(two g9 hn).2,rfl⟩⟩
     rw [rg]
     exact Ev.bind (give_c bh (by omega) h0 ha g9) (Ev.bind (rat_Neg_e hg (by omega)) (Ev.bind (give_c (gv_Bc bh h0 ha g9) (by omega) hb0 (by rw [gv_len];exact hb) hn) (Ev.same rfl)))
   · have h1':Bd 12289 (gq has i*gq vals b):=(Bd_mul hg bvb).mono (by omega)
     have h2':Bd 12289 (gq has i*gq vals a):=(Bd_mul hg bva).mono (by omega)
     refine ⟨_,_,Ev.ifp (by omega) (Ev.ifp (by omega) (Ev.ifn (by decide) (Ev.ifn (by decide) (Ev.ifn (by decide) (Ev.ifn (by decide) (Ev.ifp rfl (Ev.ifp hb0 (Ev.ifp (by omega) ?_)))))))),fun _=>⟨rfl,rfl,(two h1' h2').1,Bc_mono bi (by omega),(two h1' h2').2,rfl⟩⟩
     rw [rg,rvb]
     refine Ev.bind (rat_Mul_e hg bvb (by omega) (by omega)) (Ev.bind (give_c bh (by omega) h0 ha h1') (Ev.ifp h0 (Ev.ifp (by dsimp only;omega) ?_)))
     dsimp only
     rw [rva]
     exact Ev.bind (rat_Mul_e hg bva (by omega) (by omega)) (Ev.bind (give_c (gv_Bc bh h0 ha h1') (by omega) hb0 (by rw [gv_len];exact hb) h2') (Ev.same rfl))
   · have e:bst (7,a,b,q) i vals has ins=if gq vals b=0 then (4,[],[]) else (0,gv (gv has a (gq has i/gq vals b)) b (-(gq has i/gq vals b*gq vals i)),ins):=rfl
     rw [e]
     by_cases hz:gq vals b=0
     · rw [if_pos hz]
       refine ⟨(gv (has.set a.toNat 0) b (-(0:Rat))).map en,ins.map en,Ev.ifp (by omega) (Ev.ifp (by omega) (Ev.ifn (by decide) (Ev.ifn (by decide) (Ev.ifn (by decide) (Ev.ifn (by decide) (Ev.ifn (by decide) (Ev.ifp rfl (Ev.ifp hb0 (Ev.ifp (by omega) ?_))))))))),fun k=>absurd k (show ¬ (4:Int)=0 by decide)⟩
       rw [rg,rvb]
       have B:=by_c hg bvb (by omega) (by omega)
       unfold qd0 at B
       rw [if_pos hz] at B
       refine Ev.bind B (Ev.bind (give_z bh (by omega) h0 ha) (Ev.ifp (by dsimp only;omega) ?_))
       dsimp only
       rw [ry]
       refine Ev.bind (rat_Mul_z by0 (by omega)) (Ev.bind (rat_Neg_e (Bd_zero (n:=1) (by omega)) (by omega)) (Ev.bind (give_c (set0_Bc bh _) (by omega) hb0 (by rw [List.length_set];exact hb) Bd_neg_zero) (Ev.same rfl)))
     · rw [if_neg hz]
       have h1':Bd 12289 (gq has i/gq vals b):=(Bd_div hg bvb hz).mono (by omega)
       have h3':Bd 12288 (gq has i/gq vals b*gq vals i):=(Bd_mul (Bd_div hg bvb hz) by0).mono (by omega)
       have h2':Bd 12289 (-(gq has i/gq vals b*gq vals i)):=(Bd_neg h3').mono (by omega)
       refine ⟨_,_,Ev.ifp (by omega) (Ev.ifp (by omega) (Ev.ifn (by decide) (Ev.ifn (by decide) (Ev.ifn (by decide) (Ev.ifn (by decide) (Ev.ifn (by decide) (Ev.ifp rfl (Ev.ifp hb0 (Ev.ifp (by omega) ?_))))))))),fun _=>⟨rfl,rfl,(two h1' h2').1,Bc_mono bi (by omega),(two h1' h2').2,rfl⟩⟩
       rw [rg,rvb]
       have B:=by_c hg bvb (by omega) (by omega)
       unfold qd0 at B
       rw [if_neg hz] at B
       refine Ev.bind B (Ev.bind (give_c bh (by omega) h0 ha h1') (Ev.ifp (by dsimp only;omega) ?_))
       dsimp only
       rw [ry]
       exact Ev.bind (rat_Mul_e (Bd_div hg bvb hz) by0 (by omega) (by omega)) (Ev.bind (rat_Neg_e h3' (by omega)) (Ev.bind (give_c (gv_Bc bh h0 ha h1') (by omega) hb0 (by rw [gv_len];exact hb) h2') (Ev.same rfl)))
theorem back_l4 {l:List I6} {vals:List Rat} (hf:FitL l) (hl:l.length≤60) (hlv:vals.length=l.length) (bv:BdL 4096 vals) (n:Nat) : ∀ (has ins:List Rat) (c:Nat),n≤l.length→has.length=l.length→(∀ x∈l,x.1=1→x.2.1<ins.length)→Bc c has→Bc c ins→c+2*n≤700 →
 Ev (fun k=>tangent_Back.l4 k l ((n:Int)-1) (vals.map en) (has.map en) (ins.map en)) (exO (bkl vals l n has ins)):=by
 induction n with
 | zero =>
   intro has ins c h1 h2 h3 h4 h5 h6
   exact Ev.step (fun k=>tangent_Back.l4.eq_2 ..) (Ev.ifn (by omega) (Ev.same rfl))
 | succ n ih =>
   intro has ins c h1 h2 h3 h4 h5 h6
   have lh:=len_en has
   have ei:(((n+1:Nat):Int)-1)=(n:Int):=by omega
   rw [ei]
   have ew:wrap64 ((n:Int)-1)=(n:Int)-1:=w64_id (by omega) (by omega)
   have mx:l.getD n zI∈l:=by rw [getD_of (by omega)];exact List.getElem_mem _
   have fx:FitsP (l.getD n zI) n:=hf n (by omega)
   have bg:=gq_Bd (a:=(n:Int)) h4 (by omega) (by omega)
   refine Ev.step (fun k=>tangent_Back.l4.eq_2 ..) (Ev.ifp (by omega) (Ev.ifp (by omega) (Ev.ifp (by omega) ?_)))
   rw [rd_en (l:=has) (a:=(n:Int)) (by omega) (by omega)]
   show Ev _ (exO (if _ then _ else _))
   by_cases hb:rb (gq has n)>4096
   · rw [if_pos hb]
     exact Ev.bind (a:=(5:Int)) (Ev.ifp rfl (Ev.bind (power_Bits_e bg (by omega)) (Ev.ifp hb (Ev.same rfl)))) (Ev.ifn (show ¬ (5:Int)=0 by decide) (Ev.step (fun k=>tangent_Back.j36.eq_2 ..) (Ev.ifn (show ¬ (5:Int)=0 by decide) (Ev.same rfl))))
   · rw [if_neg hb]
     refine Ev.bind (Ev.ifp rfl (Ev.bind (power_Bits_e bg (by omega)) (Ev.ifn hb (Ev.same rfl)))) (Ev.ifp rfl (Ev.ifp (by omega) ?_))
     obtain ⟨H,I,S,q⟩:=sweep_c fx (by omega) (by omega) (h3 _ mx) bv h4 h5 (by omega) (rb_Bd (x:=gq has n) (n:=4096) (by omega))
     rw [rd_I6]
     refine Ev.bind S ?_
     generalize bst (l.getD n zI) n vals has ins=r at *
     obtain ⟨e,r1,r2⟩:=r
     dsimp only at *
     by_cases he:e=0
     · rw [if_pos he]
       obtain ⟨q1,q2,q3,q4,q5,q6⟩:=q he
       refine Ev.step (fun k=>tangent_Back.j36.eq_2 ..) (Ev.ifp he ?_)
       rw [q1,q2,ew]
       exact ih r1 r2 (c+2) (by omega) (by omega) (fun x hx h=>by rw [q6];exact h3 x hx h) q3 q4 (by omega)
     · rw [if_neg he]
       exact Ev.step (fun k=>tangent_Back.j36.eq_2 ..) (Ev.ifn he (Ev.same rfl))
def bkO (vals:List Rat) (l:List I6) (o:Option (List Rat)) (ins:List Rat):List Rat × Int × Int:=match o with
 | none=>([],0,11)
 | some has=>bkl vals l l.length has ins
theorem back_l3 {l:List I6} {vals ins cots:List Rat} {outs:List Int} (hf:FitL l) (hl:l.length≤60) (hlv:vals.length=l.length) (bv:BdL 4096 vals) (hin : ∀ x∈l,x.1=1→x.2.1<ins.length) (hoc:outs.length=cots.length) (ho:outs.length≤1000000) (bc:BdL 4096 cots) (bi:Bc 1 ins) (d:Nat) : ∀ (j:Nat) (has:List Rat) (c:Nat),j+d=outs.length→has.length=l.length→Bc c has→1≤c→c+d+120≤700 →
 Ev (fun k=>tangent_Back.l3 k l (cots.map en) outs (outs.length:Int) j (vals.map en) (has.map en) (ins.map en)) (exO (bkO vals l (otl l.length (outs.drop j) (cots.drop j) has) ins)):=by
 induction d with
 | zero =>
   intro j has c h1 h2 h3 h4 h5
   rw [List.drop_of_length_le (by omega),List.drop_of_length_le (by omega)]
   refine Ev.step (fun k=>tangent_Back.l3.eq_2 ..) (Ev.ifn (by omega) ?_)
   rw [w64_id (by omega) (by omega)]
   exact back_l4 hf hl hlv bv l.length has ins c (by omega) h2 hin h3 (Bc_mono bi h4) (by omega)
 | succ d ih =>
   intro j has c h1 h2 h3 h4 h5
   have lc:=len_en cots
   have ew:wrap64 ((j:Int)+1)=((j+1:Nat):Int):=by rw [w64_id (by omega) (by omega)];omega
   have eo:outs.drop j=rd outs j::outs.drop (j+1):=by
    have:rd outs (j:Int)=outs[j]'(by omega):=by unfold rd;rw [Int.toNat_natCast];exact getD_of (by omega)
    rw [this]
    exact List.drop_eq_getElem_cons (by omega)
   have ec:cots.drop j=gq cots j::cots.drop (j+1):=by
    have:gq cots (j:Int)=cots[j]'(by omega):=by unfold gq;rw [Int.toNat_natCast];exact getD_of (by omega)
    rw [this]
    exact List.drop_eq_getElem_cons (by omega)
   rw [eo,ec]
   refine Ev.step (fun k=>tangent_Back.l3.eq_2 ..) (Ev.ifp (by omega) (Ev.ifp (by omega) (Ev.ifp (by omega) ?_)))
   have J:Ev (fun k=>tangent_Back.j27 k) ([],0,11):=Ev.step (fun k=>tangent_Back.j27.eq_2 ..) (Ev.same rfl)
   show Ev _ (exO (bkO vals l (if _ then _ else _) ins))
   generalize rd outs (j:Int)=o
   rw [ew]
   clear ew eo ec
   by_cases c1:o<0
   · rw [if_pos (.inl c1)]
     exact Ev.ifp c1 J
   by_cases c2:o≥l.length
   · rw [if_pos (.inr c2)]
     exact Ev.ifn c1 (Ev.ifp c2 J)
   rw [if_neg (by omega)]
   have bg:Bd 12289 (gq cots j):=(gq_Bd bc (by omega) (by omega)).mono (by omega)
   refine Ev.ifn c1 (Ev.ifn c2 (Ev.ifp (by omega) ?_))
   rw [rd_en (l:=cots) (a:=(j:Int)) (by omega) (by omega)]
   exact Ev.bind (give_c h3 (by omega) (by omega) (by omega) bg) (ih (j+1) _ (c+1) (by omega) (by rw [gv_len];exact h2) (gv_Bc h3 (by omega) (by omega) bg) (by omega) (by omega))
theorem set_rep {α:Type} (e z:α) (i n:Nat) (h:i<n):(List.replicate i e++List.replicate (n-i) z).set i e=List.replicate (i+1) e++List.replicate (n-(i+1)) z:=by
 have e1:n-i=(n-(i+1))+1:=by omega
 rw [e1,List.replicate_succ,List.set_append_right _ _ (by simp),List.length_replicate,Nat.sub_self,List.set_cons_zero,List.replicate_succ',List.append_assoc]
 rfl
theorem rep_len {α:Type} (e z:α) (i n:Nat) (h:i≤n):(List.replicate i e++List.replicate (n-i) z).length=n:=by
 rw [List.length_append,List.length_replicate,List.length_replicate];omega
theorem back_l2 {l:List I6} {C:List R3} {outs:List Int} {V H:List R3} {n:Nat} {R:List R3 × Int × Int} (hn:n≤1000000) (good:Ev (fun k=>tangent_Back.l3 k l C outs (outs.length:Int) 0 V H (List.replicate n (en 0))) R) (d:Nat) : ∀ i:Nat,i+d=n→Ev (fun k=>tangent_Back.l2 k l outs C (n:Int) i V H (List.replicate i (en 0)++List.replicate (n-i) zR)) R:=by
 induction d with
 | zero =>
   intro i h
   refine Ev.step (fun k=>tangent_Back.l2.eq_2 ..) (Ev.ifn (by omega) ?_)
   rw [show n-i=0 by omega,List.replicate_zero,List.append_nil,show i=n by omega]
   exact good
 | succ d ih =>
   intro i h
   have ln:=rep_len (en 0) zR i n (by omega)
   have ew:wrap64 ((i:Int)+1)=((i+1:Nat):Int):=by rw [w64_id (by omega) (by omega)];omega
   refine Ev.step (fun k=>tangent_Back.l2.eq_2 ..) (Ev.ifp (by omega) (Ev.bind (rat_Of_c (n:=0) (by omega) (by omega)) (Ev.ifp (by omega) (Ev.ifp (by omega) ?_))))
   rw [ew,Int.toNat_natCast]
   have:=set_rep (en 0) zR i n (by omega)
   rw [← en_zero] at this ⊢
   show Ev (fun k=>tangent_Back.l2 k l outs C (n:Int) ((i+1:Nat):Int) V H ((List.replicate i (Rq 0 1)++List.replicate (n-i) zR).set i (Rq 0 1))) R
   rw [this]
   exact ih (i+1) (by omega)
theorem back_l1 {l:List I6} {C:List R3} {outs:List Int} {V I:List R3} {n:Nat} {R:List R3 × Int × Int} (hn:n≤1000000) (good:Ev (fun k=>tangent_Back.l2 k l outs C (I.length:Int) 0 V (List.replicate n (en 0)) I) R) (d:Nat) : ∀ i:Nat,i+d=n→Ev (fun k=>tangent_Back.l1 k l outs C (n:Int) i V (List.replicate i (en 0)++List.replicate (n-i) zR) I) R:=by
 induction d with
 | zero =>
   intro i h
   refine Ev.step (fun k=>tangent_Back.l1.eq_2 ..) (Ev.ifn (by omega) ?_)
   rw [show n-i=0 by omega,List.replicate_zero,List.append_nil,show i=n by omega]
   exact good
 | succ d ih =>
   intro i h
   have ln:=rep_len (en 0) zR i n (by omega)
   have ew:wrap64 ((i:Int)+1)=((i+1:Nat):Int):=by rw [w64_id (by omega) (by omega)];omega
   refine Ev.step (fun k=>tangent_Back.l1.eq_2 ..) (Ev.ifp (by omega) (Ev.bind (rat_Of_c (n:=0) (by omega) (by omega)) (Ev.ifp (by omega) (Ev.ifp (by omega) ?_))))
   rw [ew,Int.toNat_natCast]
   have:=set_rep (en 0) zR i n (by omega)
   rw [← en_zero] at this ⊢
   show Ev (fun k=>tangent_Back.l1 k l outs C (n:Int) ((i+1:Nat):Int) V ((List.replicate i (Rq 0 1)++List.replicate (n-i) zR).set i (Rq 0 1)) I) R
   rw [this]
   exact ih (i+1) (by omega)
def bkS (l:List I6) (inn forms cots:List Rat) (outs:List Int):List Rat × Int × Int :=
 if (exS l inn forms).2.2=0 then bkO (exS l inn forms).1 l (otl l.length outs cots (List.replicate l.length 0)) (List.replicate (nI l 0).toNat 0)
 else ([],(exS l inn forms).2.1,(exS l inn forms).2.2)
theorem Bc_rep (n:Nat):Bc 1 (List.replicate n 0):=by
 intro y hy
 rw [List.eq_of_mem_replicate hy]
 exact Bd_zero (by omega)
def backG (x0:List I6) (x1 x2:List R3) (x3:List Int) (x4:List R3) (k:Nat):Option (List R3 × Int × Int):=(evals_Exact.f k x0 x1 x2).bind fun bt2=>(if bt2.2.2=0 then (if 0≤(x0.length:Int) then (if ((x0.length:Int):Int).toNat*56≤281474976710656 then ((line_Inputs.f k x0).bind fun t3=>(if 0≤t3 then (if (t3:Int).toNat*56≤281474976710656 then (tangent_Back.l1 k x0 x3 x4 ((List.replicate ((x0.length:Int):Int).toNat (false,([],[])):List (Bool × (List Int) × List Int)).length:Int) 0 bt2.1 (List.replicate ((x0.length:Int):Int).toNat (false,([],[])):List (Bool × (List Int) × List Int)) (List.replicate (t3:Int).toNat (false,([],[])):List (Bool × (List Int) × List Int))) else none) else none)) else none) else none) else (some (([]:List (Bool × (List Int) × List Int)),bt2.2.1,bt2.2.2)))
theorem back_right_l {l0:List I6} {a1 a2:List R3} {outs:List Int} {C:List R3} {l:List R3} (hl:l.length≤1000000) (hs : ∀ x∈l,SmR x) {R:List R3 × Int × Int} (good:(∀ x∈l,RV x)→Ev (backG l0 a1 a2 outs C) R) (bad : ¬ (∀ x∈l,RV x)→R=([],0,1)) (d:Nat) : ∀ i:Nat,i+d=l.length→(∀ j:Nat,j<i→RV (l.getD j zR))→Ev (fun k=>tangent_Back.l0 k l0 a1 a2 outs C l (l.length:Int) i) R:=by
 induction d with
 | zero =>
   intro i h hj
   exact Ev.step (fun k=>tangent_Back.l0.eq_2 ..) (Ev.ifn (by omega) (good (RVs_all.1 fun j _ h2=>hj j (by omega))))
 | succ d ih =>
   intro i h hj
   have sm:SmR (l.getD i zR):=by rw [getD_of (by omega)];exact hs _ (List.getElem_mem _)
   obtain ⟨r1,h1,g1⟩:=rat_Right_c (l.getD i zR).1 ⟨sm.1,by have:=sm.2.2.1;omega⟩ ⟨sm.2.1,by have:=sm.2.2.2;omega⟩ sm.2.2.1 sm.2.2.2
   have ew:wrap64 ((i:Int)+1)=((i+1:Nat):Int):=by rw [w64_id (by omega) (by omega)];omega
   refine Ev.step (fun k=>tangent_Back.l0.eq_2 ..) (Ev.ifp (by omega) (Ev.ifp (by omega) (Ev.ifp (by omega) ?_)))
   rw [rd_R3]
   refine Ev.bind h1 ?_
   cases r1
   · refine Ev.ifn (by decide) (Ev.same ?_)
     rw [bad]
     intro k
     have:=RVs_all.2 k i (by omega) (by omega)
     exact absurd (g1.2 this) (by decide)
   · refine Ev.ifp rfl ?_
     rw [ew]
     refine ih (i+1) (by omega) fun j hj2=> ?_
     rcases (show j=i∨j<i by omega) with rfl | h3
     · exact g1.1 rfl
     · exact hj j h3
theorem map_rep (n:Nat):(List.replicate n (0:Rat)).map en=List.replicate n (en 0):=List.map_replicate
theorem Back_c {l:List I6} {inn forms cots:List R3} {outs:List Int} (hl:l.length≤60) (hs : ∀ x∈l,ShI x) (li:inn.length≤1000) (lf:forms.length≤1000) (lo:outs.length≤30) (hi : ∀ x∈inn,Sh3 x) (hc : ∀ x∈cots,Sh3 x) (hF : ∀ x∈forms,Sh3 x) :
 (¬ (outs.length=cots.length∧ ∀ x∈cots,RV x)→Ev (fun k=>tangent_Back.f k l inn forms outs cots) ([],0,1)) ∧
 (outs.length=cots.length→(∀ x∈cots,RV x) →
   (Ev (fun k=>evals_Exact.f k l inn forms) ([],0,1)→Ev (fun k=>tangent_Back.f k l inn forms outs cots) ([],0,1)) ∧
   (FitL l→Ev (fun k=>evals_Exact.f k l inn forms) (exO (exS l (inn.map de) (forms.map de)))→Ev (fun k=>tangent_Back.f k l inn forms outs cots) (exO (bkS l (inn.map de) (forms.map de) (cots.map de) outs)))):=by
 have hsm : ∀ x∈cots,SmR x:=fun x hx=>(hc x hx).sm
 refine ⟨fun hn=> ?_,fun hlen hr=>⟨fun E=> ?_,fun f1 E=> ?_⟩⟩
 · by_cases hlen:outs.length=cots.length
   · have hr : ¬ ∀ x∈cots,RV x:=fun k=>hn ⟨hlen,k⟩
     exact Ev.ifp (by omega) (back_right_l (by omega) hsm (fun k=>absurd k hr) (fun _=>rfl) cots.length 0 (by omega) (fun j hj=>absurd hj (by omega)))
   · exact Ev.ifn (by omega) (Ev.same rfl)
 · exact Ev.ifp (by omega) (back_right_l (by omega) hsm (fun _=>Ev.bind E (Ev.ifn (show ¬ (1:Int)=0 by decide) (Ev.same rfl))) (fun k=>absurd hr k) cots.length 0 (by omega) (fun j hj=>absurd hj (by omega)))
 · refine Ev.ifp (by omega) (back_right_l (by omega) hsm (fun _=>Ev.bind E ?_) (fun k=>absurd hr k) cots.length 0 (by omega) (fun j hj=>absurd hj (by omega)))
   have hlv:=(exl_len (inn:=inn.map de) (forms:=forms.map de) l 0 [] 0).1
   change (exS l (inn.map de) (forms.map de)).2.2=0→_ at hlv
   unfold bkS
   by_cases he:(exS l (inn.map de) (forms.map de)).2.2=0
   case neg =>
    rw [if_neg he]
    exact Ev.ifn he (Ev.same rfl)
   rw [if_pos he]
   have hlv2:(exS l (inn.map de) (forms.map de)).1.length=l.length:=by
    have h9:=(hlv he).1
    rw [List.length_nil,Nat.zero_add] at h9
    exact h9
   have bv:BdL 4096 (exS l (inn.map de) (forms.map de)).1:=exl_Bd l 0 [] 0 (BdL_nil _)
   have n0:=nI_le l 0
   have hfi : ∀ x∈l,x.1=1→x.2.1<65536:=by
    intro x hx h1
    obtain ⟨j,hj,rfl⟩:=List.getElem_of_mem hx
    have:=op_of (hf_at f1 hj)
    omega
   have n1:nI l 0≤65536:=nI_max l 0 65536 (by omega) hfi
   refine Ev.ifp he (Ev.ifp (by omega) (Ev.ifp (by omega) (Ev.bind (line_Inputs_c (by omega)) (Ev.ifp n0 (Ev.ifp (by omega) ?_)))))
   rw [Int.toNat_natCast,List.length_replicate]
   have B3:=back_l3 (l:=l) (vals:=(exS l (inn.map de) (forms.map de)).1) (ins:=List.replicate (nI l 0).toNat 0) (cots:=cots.map de) (outs:=outs) f1 hl hlv2 bv (by
    intro x hx h1
    rw [List.length_replicate]
    have:=nI_has l 0 x hx h1 (hfi x hx h1)
    omega) (by rw [List.length_map];exact hlen) (by omega) ((list_Bd hc hr).mono (by omega)) (Bc_rep _) outs.length 0 (List.replicate l.length 0) 1 (by omega) (by rw [List.length_replicate]) (Bc_rep _) (by omega) (by omega)
   rw [list_en (fun x hx=>⟨(hc x hx).1,(hc x hx).2.1⟩) hr,map_rep,map_rep,List.drop_zero,List.drop_zero] at B3
   have B2:=back_l2 (n:=(nI l 0).toNat) (by omega) B3 (nI l 0).toNat 0 (by omega)
   rw [List.replicate_zero,List.nil_append,Nat.sub_zero] at B2
   have B1:=back_l1 (n:=l.length) (I:=List.replicate (nI l 0).toNat zR) (by omega) (by rw [List.length_replicate];exact B2) l.length 0 (by omega)
   rw [List.replicate_zero,List.nil_append,Nat.sub_zero] at B1
   exact B1
def fsF (a b:Int):Int :=
 if fs a=fs b then sgn (fs a) (Rd (pm a*2^(pe a-min (pe a) (pe b)).toNat+pm b*2^(pe b-min (pe a) (pe b)).toNat) (min (pe a) (pe b)))
 else if pm a*2^(pe a-min (pe a) (pe b)).toNat=pm b*2^(pe b-min (pe a) (pe b)).toNat then 0
 else if pm a*2^(pe a-min (pe a) (pe b)).toNat>pm b*2^(pe b-min (pe a) (pe b)).toNat then sgn (fs a) (Rd (pm a*2^(pe a-min (pe a) (pe b)).toNat-pm b*2^(pe b-min (pe a) (pe b)).toNat) (min (pe a) (pe b)))
 else sgn (fs b) (Rd (pm b*2^(pe b-min (pe a) (pe b)).toNat-pm a*2^(pe a-min (pe a) (pe b)).toNat) (min (pe a) (pe b)))
def fadd (a b:Int):Int:=if fk a=4∨fk b=4 then NAN else if fk a=3∧fk b=3∧a≠b then NAN else if fk a=3 then a else if fk b=3 then b else fsF a b
def fl (b:Int):Int:=if fk b=4 then NAN else (b+9223372036854775808)%18446744073709551616
def fsub (a b:Int):Int:=fadd a (fl b)

def fmul (a b:Int):Int:=if fk a=4∨fk b=4∨(fk a=3∧fk b=0)∨(fk a=0∧fk b=3) then NAN else if fk a=3∨fk b=3 then sgn (fs a !=fs b) INF else sgn (fs a !=fs b) (Rd (pm a*pm b) (pe a+pe b))
def qd (m e n f:Int):Int :=
 if m*2^(63-bl m).toNat*18446744073709551616%(n*2^(64-bl n).toNat)=0 then Rd (m*2^(63-bl m).toNat*18446744073709551616/(n*2^(64-bl n).toNat)) (e-f+bl m-bl n-63)
 else Rd (2*(m*2^(63-bl m).toNat*18446744073709551616/(n*2^(64-bl n).toNat))+1) (e-f+bl m-bl n-64)
def fdiv (a b:Int):Int:=if fk a=4∨fk b=4∨(fk a=3∧fk b=3)∨(fk a=0∧fk b=0) then NAN else if fk a=3∨fk b=0 then sgn (fs a !=fs b) INF else if fk a=0∨fk b=3 then sgn (fs a !=fs b) 0 else sgn (fs a !=fs b) (qd (pm a) (pe a) (pm b) (pe b))
def near (b:Int):Int × Bool:=if fx b=2047∨bl (pm b)+pe b>62 then (0,false) else (if fs b then -(ru (pm b) (pe b) 0) else ru (pm b) (pe b) 0,true)
def fkey (b:Int):Int:=if fs b then -(b-9223372036854775808) else b
def less (a b:Int):Bool:=decide (fk a≠4∧fk b≠4∧fkey a<fkey b)
def fint (n:Int):Int:=sgn (decide (n<0)) (Rd (if n<0 then -n else n) 0)
def V (b:Int):Int:=pm b*2^(pe b+1074).toNat
def fpart (n:Int):Int:=fdiv 4607182418800017408 (fint n)
def ek (x:Int):Int:=(near (fmul x 4609176140021203710)).1
def er (x:Int):Int:=fsub (fsub x (fmul (fint (ek x)) 4604418534311723008)) (fmul (fint (ek x)) 4461442080421002358)
def hlog (z:Int):Nat→Int→Int
 | 0,p=>p
 | i+1,p=>hlog z i (fadd (fmul p z) (fpart (2*((i:Int)+1)+1)))
def ls (f:Int):Int:=fdiv (fsub f 4607182418800017408) (fadd 4611686018427387904 (fsub f 4607182418800017408))
def lz (f:Int):Int:=fmul (ls f) (ls f)
def lp (f:Int):Int:=hlog (lz f) 9 (fpart 21)
def ly (f:Int):Int:=fadd (fadd (ls f) (ls f)) (fmul (fadd (ls f) (ls f)) (fmul (lp f) (lz f)))
theorem plain_Long_c (s:Bool) (a b:List Int) (m:Int) : ∃ r,gradineplain_Long.f s a b m=some r∧(r=false↔(a.length:Int)≤m∧(b.length:Int)≤m):=by
 unfold gradineplain_Long.f
 by_cases h:(a.length:Int)>m
 · rw [if_pos h];exact ⟨true,rfl,by simp;omega⟩
 · rw [if_neg h]
   refine ⟨_,rfl, ?_⟩
   rw [decide_eq_false_iff_not]
   omega
theorem Longer_l {l:List R3} (hl:l.length≤9223372036854775807) (m:Int) (d:Nat) : ∀ i:Nat,i+d=l.length→ ∃ r,Ev (fun k=>gradineplain_Longer.l0 k l m (l.length:Int) i) r∧(r=false↔ ∀ j:Nat,i≤j→j<l.length→((l.getD j zR).2.1.length:Int)≤m∧((l.getD j zR).2.2.length:Int)≤m):=by
 induction d with
 | zero =>
   intro i h
   refine ⟨false,Ev.step (fun k=>gradineplain_Longer.l0.eq_2 ..) (Ev.ifn (by omega) (Ev.same rfl)), ?_⟩
   simp only [true_iff]
   intro j h1 h2
   omega
 | succ d ih =>
   intro i h
   obtain ⟨r1,h1,g1⟩:=plain_Long_c (l.getD i zR).1 (l.getD i zR).2.1 (l.getD i zR).2.2 m
   obtain ⟨r2,h2,g2⟩:=ih (i+1) (by omega)
   have ew:wrap64 ((i:Int)+1)=((i+1:Nat):Int):=by rw [w64_id (by omega) (by omega)];omega
   refine ⟨r1 || r2,Ev.step (fun k=>gradineplain_Longer.l0.eq_2 ..) (Ev.ifp (by omega) (Ev.ifp (by omega) (Ev.ifp (by omega) ?_))), ?_⟩
   · rw [rd_R3]
     refine Ev.bindc h1 ?_
     cases r1
     · refine Ev.ifn (by decide) ?_
       rw [ew]
       exact h2
     · exact Ev.ifp rfl (Ev.same rfl)
   · rw [Bool.or_eq_false_iff,g1,g2,all_from (show i<l.length by omega)]
theorem Longer_c {l:List R3} (hl:l.length≤9223372036854775807) (m:Int) : ∃ r,Ev (fun k=>gradineplain_Longer.f k l m) r∧(r=false↔ ∀ x∈l,(x.2.1.length:Int)≤m∧(x.2.2.length:Int)≤m):=by
 obtain ⟨r,h,g⟩:=Longer_l hl m l.length 0 (by omega)
 refine ⟨r,h,g.trans ⟨fun k x hx=> ?_,fun k j _ hj=> ?_⟩⟩
 · obtain ⟨j,hj,rfl⟩:=List.getElem_of_mem hx
   have:=k j (by omega) hj
   rw [getD_of hj] at this
   exact this
 · rw [getD_of hj]
   exact k _ (List.getElem_mem _)
theorem Many_l {l:List I6} (hl:l.length≤9223372036854775807) (d:Nat) : ∀ i:Nat,i+d=l.length→ ∃ r,Ev (fun k=>gradinelaw15_Many.l0 k l (l.length:Int) i) r∧(r=false→ ∀ j:Nat,i≤j→j<l.length→(l.getD j zI).2.2.2.2.1.length≤8∧(l.getD j zI).2.2.2.2.2.length≤8):=by
 induction d with
 | zero =>
   intro i h
   exact ⟨_,Ev.step (fun k=>gradinelaw15_Many.l0.eq_2 ..) (Ev.ifn (by omega) (Ev.same rfl)),fun _ j h1 h2=>by omega⟩
 | succ d ih =>
   intro i h
   obtain ⟨r1,h1,g1⟩:=plain_Long_c (l.getD i zI).2.2.2.1 (l.getD i zI).2.2.2.2.1 (l.getD i zI).2.2.2.2.2 8
   obtain ⟨r2,h2,g2⟩:=ih (i+1) (by omega)
   have ew:wrap64 ((i:Int)+1)=((i+1:Nat):Int):=by rw [w64_id (by omega) (by omega)];omega
   refine ⟨r1 || r2,Ev.step (fun k=>gradinelaw15_Many.l0.eq_2 ..) (Ev.ifp (by omega) (Ev.ifp (by omega) (Ev.ifp (by omega) ?_))), ?_⟩
   · rw [rd_I6]
     refine Ev.bindc h1 ?_
     cases r1
     · refine Ev.ifn (by decide) ?_
       rw [ew]
       exact h2
     · exact Ev.ifp rfl (Ev.same rfl)
   · intro hr
     rw [Bool.or_eq_false_iff] at hr
     rw [all_from (P:=fun j=>(l.getD j zI).2.2.2.2.1.length≤8∧(l.getD j zI).2.2.2.2.2.length≤8) (show i<l.length by omega)]
     exact ⟨by have:=g1.1 hr.1;omega,g2 hr.2⟩
theorem Many_c {l:List I6} (hl:l.length≤9223372036854775807) (hw : ∀ x∈l,Ws x.2.2.2.2.1∧Ws x.2.2.2.2.2) : ∃ r,Ev (fun k=>gradinelaw15_Many.f k l) r∧(r=false→ ∀ x∈l,ShI x):=by
 obtain ⟨r,h,g⟩:=Many_l hl l.length 0 (by omega)
 refine ⟨r,h,fun k x hx=> ?_⟩
 have w:=hw x hx
 obtain ⟨j,hj,rfl⟩:=List.getElem_of_mem hx
 have:=g k j (by omega) hj
 rw [getD_of hj] at this
 exact ⟨w.1,w.2,this.1,this.2⟩
def WsR (l:List R3):Prop:= ∀ x∈l,Ws x.2.1∧Ws x.2.2
def WsI (l:List I6):Prop:= ∀ x∈l,Ws x.2.2.2.2.1∧Ws x.2.2.2.2.2
theorem Sh3_of {l:List R3} (hw:WsR l) (h : ∀ x∈l,(x.2.1.length:Int)≤3∧(x.2.2.length:Int)≤3) : ∀ x∈l,Sh3 x:=fun x hx=>⟨(hw x hx).1,(hw x hx).2,by have:=(h x hx).1;omega,by have:=(h x hx).2;omega⟩
theorem Few_c {l:List I6} {inn forms:List R3} (hl:l.length≤9223372036854775807) (hw:WsI l) (hi:WsR inn) (hF:WsR forms) : ∃ r,Ev (fun k=>gradinelaw16_Few.f k l inn forms) r∧(r=true→l.length≤60∧inn.length≤30∧forms.length≤60∧(∀ x∈l,ShI x)∧(∀ x∈inn,Sh3 x)∧ ∀ x∈forms,Sh3 x):=by
 obtain ⟨r,h,g⟩:=Many_c hl hw
 cases r
 case true=>exact ⟨false,Ev.bind h (Ev.ifp rfl (Ev.same rfl)),fun k=>absurd k (by decide)⟩
 by_cases h1:l.length≤60
 case neg=>exact ⟨false,Ev.bind h (Ev.ifn (by decide) (Ev.ifn (by omega) (Ev.same rfl))),fun k=>absurd k (by decide)⟩
 by_cases h2:inn.length≤30
 case neg=>exact ⟨false,Ev.bind h (Ev.ifn (by decide) (Ev.ifp (by omega) (Ev.ifn (by omega) (Ev.same rfl)))),fun k=>absurd k (by decide)⟩
 by_cases h3:forms.length≤60
 case neg=>exact ⟨false,Ev.bind h (Ev.ifn (by decide) (Ev.ifp (by omega) (Ev.ifp (by omega) (Ev.ifn (by omega) (Ev.same rfl))))),fun k=>absurd k (by decide)⟩
 obtain ⟨r2,q2,g2⟩:=Longer_c (l:=inn) (by omega) 3
 cases r2
 case true=>exact ⟨false,Ev.bind h (Ev.ifn (by decide) (Ev.ifp (by omega) (Ev.ifp (by omega) (Ev.ifp (by omega) (Ev.bind q2 (Ev.ifp rfl (Ev.same rfl))))))),fun k=>absurd k (by decide)⟩
 obtain ⟨r3,q3,g3⟩:=Longer_c (l:=forms) (by omega) 3
 refine ⟨!r3,Ev.bind h (Ev.ifn (by decide) (Ev.ifp (by omega) (Ev.ifp (by omega) (Ev.ifp (by omega) (Ev.bind q2 (Ev.ifn (by decide) (Ev.bind q3 (Ev.same rfl)))))))),fun k=> ?_⟩
 have e3:r3=false:=by cases r3;rfl;exact absurd k (by decide)
 exact ⟨h1,h2,h3,g rfl,Sh3_of hi (g2.1 rfl),Sh3_of hF (g3.1 e3)⟩

theorem evals_ok {l:List I6} {inn forms:List R3} (hl:l.length≤60) (hs : ∀ x∈l,ShI x) (li:inn.length≤1000) (lf:forms.length≤1000) (hi : ∀ x∈inn,Sh3 x) (hF : ∀ x∈forms,Sh3 x) (f1:FitL l) (f2 : ∀ x∈inn,RV x) (f3 : ∀ x∈forms,RV x):Ev (fun k=>evals_Exact.f k l inn forms) (exO (exS l (inn.map de) (forms.map de))):=by
 obtain ⟨a1,A1,c1⟩:=line_Right_c (l:=l) (by omega) (fun x hx=>(hs x hx).sm)
 obtain ⟨a2,A2,c2⟩:=evals_right_c (l:=inn) (by omega) (fun x hx=>(hi x hx).sm)
 obtain ⟨a3,A3,c3⟩:=evals_right_c (l:=forms) (by omega) (fun x hx=>(hF x hx).sm)
 refine Ev.bind A1 (Ev.ifp (c1.2 f1) (Ev.bind A2 (Ev.ifp (c2.2 f2) (Ev.bind A3 (Ev.ifp (c3.2 f3) ?_)))))
 have:=exact_l0 (inn:=inn.map de) (forms:=forms.map de) f1 hs (by omega) ((list_Bd hi f2).mono (by omega)) ((list_Bd hF f3).mono (by omega)) (by rw [List.length_map];omega) l.length 0 [] 0 (by omega) rfl (BdL_nil _)
 rw [list_en (fun x hx=>⟨(hi x hx).1,(hi x hx).2.1⟩) f2,list_en (fun x hx=>⟨(hF x hx).1,(hF x hx).2.1⟩) f3] at this
 exact this
def kL2:List I6:= [(1,0,0,false,[],[]),(6,0,0,false,[],[])]
theorem kL2_fit:FitL kL2:=by
 intro i hi
 have:i=0∨i=1:=by have:kL2.length=2:=rfl;omega
 rcases this with rfl | rfl
 · exact .inr (.inl ⟨rfl,⟨rfl,rfl,rfl⟩,by decide,by decide,rfl⟩)
 · exact .inr (.inr (.inr ⟨rfl,⟨rfl,rfl,rfl⟩,by decide,by decide,by decide,by decide⟩))
theorem kL2_sh : ∀ x∈kL2,ShI x:=by
 intro x hx
 unfold kL2 at hx
 simp only [List.mem_cons,List.not_mem_nil,or_false] at hx
 rcases hx with rfl | rfl<;>exact ⟨Ws_nil,Ws_nil,by decide,by decide⟩
theorem Ws_lit2:Ws [2]∧Ws [3]∧Ws [1]∧Ws [0]∧Ws [6]:=by
 refine ⟨?_, ?_, ?_, ?_, ?_⟩<;>(intro x hx;rw [List.mem_singleton.1 hx];unfold U;omega)
theorem few_c {l:List I6} {inn dirs forms:List R3} (hl:l.length≤9223372036854775807) (hw:WsI l) (hi:WsR inn) (hd:WsR dirs) (hF:WsR forms) : ∃ r,Ev (fun k=>gradinelaw17_few.f k l inn dirs forms) r∧(r=true→l.length≤60∧inn.length≤30∧dirs.length≤30∧forms.length≤60∧(∀ x∈l,ShI x)∧(∀ x∈inn,Sh3 x)∧(∀ x∈dirs,Sh3 x)∧ ∀ x∈forms,Sh3 x):=by
 obtain ⟨r,h,g⟩:=Few_c hl hw hi hF
 cases r
 case false=>exact ⟨false,Ev.bind h (Ev.ifn (by decide) (Ev.same rfl)),fun k=>absurd k (by decide)⟩
 obtain ⟨g1,g2,g3,g4,g5,g6⟩:=g rfl
 by_cases h2:dirs.length≤30
 case neg=>exact ⟨false,Ev.bind h (Ev.ifp rfl (Ev.ifn (by omega) (Ev.same rfl))),fun k=>absurd k (by decide)⟩
 obtain ⟨r3,q3,g7⟩:=Longer_c (l:=dirs) (by omega) 3
 refine ⟨!r3,Ev.bind h (Ev.ifp rfl (Ev.ifp (by omega) (Ev.bind q3 (Ev.same rfl)))),fun k=> ?_⟩
 have e3:r3=false:=by cases r3;rfl;exact absurd k (by decide)
 exact ⟨g1,g2,h2,g3,g4,g5,Sh3_of hd (g7.1 e3),g6⟩
theorem dirs_ok {l:List R3} (h : ∀ x∈l,Sh3 x) : ∀ x∈l,SmR x∧(RV x→Bd 4096 (de x)):=fun x hx=>⟨(h x hx).sm,fun hv=>(de_Bd (h x hx).1 (h x hx).2.1 hv (h x hx).2.2.1 (h x hx).2.2.2).mono (by omega)⟩
theorem tal_Bd {vals dirs:List Rat} : ∀ (l:List I6) (i:Nat) (out:List Rat),BdL 4096 out→BdL 4096 (tal vals dirs l i out).1
 | [],i,out,h=>h
 | x::l,i,out,h=>by
   show BdL 4096 (if _ then _ else _:List Rat × Int × Int).1
   split
   · split
     · exact BdL_nil _
     · exact tal_Bd l (i+1) _ (BdL_snoc h (rb_Bd (by omega)))
   · exact BdL_nil _
theorem tal_len {vals dirs:List Rat} : ∀ (l:List I6) (i:Nat) (out:List Rat),((tal vals dirs l i out).2.2=0→(tal vals dirs l i out).1.length=out.length+l.length∧(tal vals dirs l i out).2.1=0)∧(tal vals dirs l i out).1.length≤out.length+l.length
 | [],i,out=>⟨fun _=>⟨rfl,rfl⟩,by show out.length≤_;omega⟩
 | x::l,i,out=>by
   show (((if _ then _ else _:List Rat × Int × Int).2.2=0)→(if _ then _ else _:List Rat × Int × Int).1.length=_∧(if _ then _ else _:List Rat × Int × Int).2.1=0)∧(if _ then _ else _:List Rat × Int × Int).1.length≤_
   split
   · split
     · exact ⟨fun h=>absurd h (show ¬ (5:Int)=0 by decide),by simp⟩
     · have ih:=tal_len (vals:=vals) (dirs:=dirs) l (i+1) (out++ [(tst x (gq vals i) vals out dirs).2])
       simp only [List.length_append,List.length_cons,List.length_nil] at ih ⊢
       refine ⟨fun h=>⟨by have:=(ih.1 h).1;omega,(ih.1 h).2⟩,by have:=ih.2;omega⟩
   · rename_i h
     exact ⟨fun k=>absurd k h,by simp⟩
theorem tOf_lists (l:List I6) (inn dirs forms:List Rat):BdL 4096 (tOf l inn dirs forms).1∧BdL 4096 (tOf l inn dirs forms).2.1∧(tOf l inn dirs forms).1.length≤l.length∧(tOf l inn dirs forms).2.1.length≤l.length:=by
 have b1:BdL 4096 (exS l inn forms).1:=exl_Bd l 0 [] 0 (BdL_nil _)
 have l1:(exS l inn forms).1.length≤([]:List Rat).length+l.length:=(exl_len l 0 [] 0).2
 have b2:=tal_Bd (vals:=(exS l inn forms).1) (dirs:=dirs) l 0 [] (BdL_nil _)
 have l2:=(tal_len (vals:=(exS l inn forms).1) (dirs:=dirs) l 0 []).2
 rw [List.length_nil,Nat.zero_add] at l1 l2
 unfold tOf
 split
 · split
   · exact ⟨b1,b2,l1,l2⟩
   · exact ⟨BdL_nil _,BdL_nil _,by simp,by simp⟩
 · exact ⟨BdL_nil _,BdL_nil _,by simp,by simp⟩
section
def Lin (m:Rat) (a b c:List Rat):Prop:= ∀ n:Nat,c.getD n 0=a.getD n 0+b.getD n 0*m
theorem Lin.gq {m:Rat} {a b c:List Rat} (h:Lin m a b c) (j:Int):gq c j=gq a j+gq b j*m:=h j.toNat
theorem getD_snoc (l:List Rat) (x:Rat) (n:Nat):(l++ [x]).getD n 0=if n<l.length then l.getD n 0 else if n=l.length then x else 0:=by
 rw [List.getD_eq_getElem?_getD,List.getElem?_append]
 split
 · rw [List.getD_eq_getElem?_getD]
 · split
   · rename_i h;rw [h,Nat.sub_self];rfl
   · rw [List.getElem?_eq_none (by simp;omega)];rfl
theorem Lin_snoc {m:Rat} {a b c:List Rat} {x y z:Rat} (h:Lin m a b c) (l1:a.length=c.length) (l2:b.length=c.length) (e:z=x+y*m):Lin m (a++ [x]) (b++ [y]) (c++ [z]):=by
 intro n
 rw [getD_snoc,getD_snoc,getD_snoc,l1,l2]
 split
 · exact h n
 · split
   · exact e
   · rw [Rat.zero_mul,Rat.add_zero]
section
variable {x:I6} {y:Rat} {v t d:List Rat}
theorem tst1 (h:x.1=1):tst x y v t d=(0,gq d x.2.1):=by unfold tst;rw [if_pos h]
theorem tst2 (h:x.1=2):tst x y v t d=(0,0):=by unfold tst;rw [if_neg (by omega),if_pos h]
theorem tst3 (h:x.1=3):tst x y v t d=(0,-(gq t x.2.1)):=by unfold tst;rw [if_neg (by omega),if_neg (by omega),if_pos h]
theorem tst4 (h:x.1=4):tst x y v t d=(0,gq t x.2.1+gq t x.2.2.1):=by unfold tst;rw [if_neg (by omega),if_neg (by omega),if_neg (by omega),if_pos h]
theorem tst5 (h:x.1=5):tst x y v t d=(0,gq t x.2.1-gq t x.2.2.1):=by unfold tst;rw [if_neg (by omega),if_neg (by omega),if_neg (by omega),if_neg (by omega),if_pos h]
theorem tst6 (h:x.1=6):tst x y v t d=(0,gq t x.2.1*gq v x.2.2.1+gq v x.2.1*gq t x.2.2.1):=by unfold tst;rw [if_neg (by omega),if_neg (by omega),if_neg (by omega),if_neg (by omega),if_neg (by omega),if_pos h]
theorem tst7 (h:x.1=7):tst x y v t d=qd0 (gq t x.2.1-y*gq t x.2.2.1) (gq v x.2.2.1):=by unfold tst;rw [if_neg (by omega),if_neg (by omega),if_neg (by omega),if_neg (by omega),if_neg (by omega),if_neg (by omega),if_pos h]
theorem tst8 (h:x.1=8):tst x y v t d=qd0 (gq t x.2.1) (y+y):=by unfold tst;rw [if_neg (by omega),if_neg (by omega),if_neg (by omega),if_neg (by omega),if_neg (by omega),if_neg (by omega),if_neg (by omega),if_pos h]
theorem tst9 (h:x.1=9):tst x y v t d=(0,gq t x.2.1*y):=by unfold tst;rw [if_neg (by omega),if_neg (by omega),if_neg (by omega),if_neg (by omega),if_neg (by omega),if_neg (by omega),if_neg (by omega),if_neg (by omega),if_pos h]
theorem tst10 (h:x.1≠1∧x.1≠2∧x.1≠3∧x.1≠4∧x.1≠5∧x.1≠6∧x.1≠7∧x.1≠8∧x.1≠9):tst x y v t d=qd0 (gq t x.2.1) (gq v x.2.1):=by unfold tst;rw [if_neg (by omega),if_neg (by omega),if_neg (by omega),if_neg (by omega),if_neg (by omega),if_neg (by omega),if_neg (by omega),if_neg (by omega),if_neg (by omega)]
end
theorem qd0_ok {n d:Rat} (h:(qd0 n d).1=0):d≠0∧(qd0 n d).2=n*d⁻¹ :=by
 unfold qd0 at h ⊢
 split at h
 · exact absurd h (by decide)
 · rename_i k;rw [if_neg k];exact ⟨k,Rat.div_def n d⟩
theorem lin_qd {m na nb nc d:Rat} (e:nc=na+nb*m) (ha:(qd0 na d).1=0) (hb:(qd0 nb d).1=0) (hc:(qd0 nc d).1=0):(qd0 nc d).2=(qd0 na d).2+(qd0 nb d).2*m:=by
 rw [(qd0_ok ha).2,(qd0_ok hb).2,(qd0_ok hc).2,e]
 generalize d⁻¹ =q
 grind
theorem tst_lin {x:I6} {y m:Rat} {v ta tb tc da db dc:List Rat} (ht:Lin m ta tb tc) (hd:Lin m da db dc) (ea:(tst x y v ta da).1=0) (eb:(tst x y v tb db).1=0) (ec:(tst x y v tc dc).1=0):(tst x y v tc dc).2=(tst x y v ta da).2+(tst x y v tb db).2*m:=by
 have t1:=ht.gq x.2.1
 have t2:=ht.gq x.2.2.1
 have d1:=hd.gq x.2.1
 by_cases h:x.1=1
 · rw [tst1 h,tst1 h,tst1 h];exact d1
 by_cases h2:x.1=2
 · rw [tst2 h2,tst2 h2,tst2 h2];show (0:Rat)=0+0*m;grind
 by_cases h3:x.1=3
 · rw [tst3 h3,tst3 h3,tst3 h3];dsimp only;rw [t1];grind
 by_cases h4:x.1=4
 · rw [tst4 h4,tst4 h4,tst4 h4];dsimp only;rw [t1,t2];grind
 by_cases h5:x.1=5
 · rw [tst5 h5,tst5 h5,tst5 h5];dsimp only;rw [t1,t2];grind
 by_cases h6:x.1=6
 · rw [tst6 h6,tst6 h6,tst6 h6];dsimp only;rw [t1,t2];grind
 by_cases h7:x.1=7
 · rw [tst7 h7] at ea eb ec ⊢
   rw [tst7 h7,tst7 h7]
   exact lin_qd (by rw [t1,t2];grind) ea eb ec
 by_cases h8:x.1=8
 · rw [tst8 h8] at ea eb ec ⊢
   rw [tst8 h8,tst8 h8]
   exact lin_qd t1 ea eb ec
 by_cases h9:x.1=9
 · rw [tst9 h9,tst9 h9,tst9 h9];dsimp only;rw [t1];grind
 have hh:x.1≠1∧x.1≠2∧x.1≠3∧x.1≠4∧x.1≠5∧x.1≠6∧x.1≠7∧x.1≠8∧x.1≠9:=⟨h,h2,h3,h4,h5,h6,h7,h8,h9⟩
 rw [tst10 hh] at ea eb ec ⊢
 rw [tst10 hh,tst10 hh]
 exact lin_qd t1 ea eb ec
theorem tal_step {vals dirs:List Rat} {x:I6} {l:List I6} {i:Nat} {out:List Rat} (h:(tal vals dirs (x::l) i out).2.2=0):(tst x (gq vals i) vals out dirs).1=0∧tal vals dirs (x::l) i out=tal vals dirs l (i+1) (out++ [(tst x (gq vals i) vals out dirs).2]):=by
 have e:tal vals dirs (x::l) i out=if (tst x (gq vals i) vals out dirs).1=0 then (if rb (tst x (gq vals i) vals out dirs).2>4096 then ([],(i:Int),5) else tal vals dirs l (i+1) (out++ [(tst x (gq vals i) vals out dirs).2])) else ([],(i:Int),(tst x (gq vals i) vals out dirs).1):=rfl
 rw [e] at h ⊢
 split at h
 · rename_i h0
   split at h
   · exact absurd h (show ¬ (5:Int)=0 by decide)
   · rename_i h1
     rw [if_pos h0,if_neg h1]
     exact ⟨h0,rfl⟩
 · exact absurd h ‹_›
theorem tal_lin {vals:List Rat} {m:Rat} {da db dc:List Rat} (hd:Lin m da db dc) : ∀ (l:List I6) (i:Nat) (oa ob oc:List Rat),Lin m oa ob oc→oa.length=oc.length→ob.length=oc.length →
 (tal vals da l i oa).2.2=0→(tal vals db l i ob).2.2=0→(tal vals dc l i oc).2.2=0→Lin m (tal vals da l i oa).1 (tal vals db l i ob).1 (tal vals dc l i oc).1
 | [],i,oa,ob,oc,h,_,_,_,_,_=>h
 | x::l,i,oa,ob,oc,h,l1,l2,ea,eb,ec=>by
   obtain ⟨a1,a2⟩:=tal_step ea
   obtain ⟨b1,b2⟩:=tal_step eb
   obtain ⟨c1,c2⟩:=tal_step ec
   rw [a2] at ea ⊢
   rw [b2] at eb ⊢
   rw [c2] at ec ⊢
   exact tal_lin hd l (i+1) _ _ _ (Lin_snoc h l1 l2 (tst_lin h hd a1 b1 c1)) (by simp [l1]) (by simp [l2]) ea eb ec
theorem tOf_ok {l:List I6} {inn dirs forms:List Rat} (h:(tOf l inn dirs forms).2.2.2=0):(tal (exS l inn forms).1 dirs l 0 []).2.2=0∧(tOf l inn dirs forms).2.1=(tal (exS l inn forms).1 dirs l 0 []).1∧(tOf l inn dirs forms).2.1.length=l.length:=by
 unfold tOf at h ⊢
 split at h
 · split at h
   · rename_i h1 h2
     rw [if_pos h1,if_pos h2]
     have:=((tal_len (vals:=(exS l inn forms).1) (dirs:=dirs) l 0 []).1 h2).1
     rw [List.length_nil,Nat.zero_add] at this
     exact ⟨h2,rfl,this⟩
   · exact absurd h ‹_›
 · exact absurd h ‹_›
theorem Of_some {l:List I6} {inn dirs forms:List R3} (hl:l.length≤60) (hs : ∀ x∈l,ShI x) (li:inn.length≤1000) (ld:dirs.length≤1000) (lf:forms.length≤1000) (hi : ∀ x∈inn,Sh3 x) (hd : ∀ x∈dirs,SmR x∧(RV x→Bd 4096 (de x))) (hF : ∀ x∈forms,Sh3 x) :
 ∃ r,Ev (fun k=>tangent_Of.f k l inn dirs forms) r∧(r.2.2.2=0→r=tOO (tOf l (inn.map de) (dirs.map de) (forms.map de))∧(tOf l (inn.map de) (dirs.map de) (forms.map de)).2.2.2=0):=by
 rcases Of_both hl hs li ld lf hi hd hF with ⟨e1,_⟩ | ⟨_,_,_,_,_,e1,_⟩
 · exact ⟨_,e1,fun k=>absurd k (show ¬ (1:Int)=0 by decide)⟩
 · exact ⟨_,e1,fun k=>⟨rfl,k⟩⟩
def bth (m:Rat) (a b:List Rat):List Rat:=List.zipWith (fun x y=>x*m+y) a b
theorem bth_len {m:Rat} {a b:List Rat} (h:a.length=b.length):(bth m a b).length=b.length:=by unfold bth;rw [List.length_zipWith];omega
theorem bth_get {m:Rat} {a b:List Rat} (h:a.length=b.length) {i:Nat} (hi:i<b.length):gq (bth m a b) i=gq a i*m+gq b i:=by
 have:=bth_len (m:=m) h
 unfold gq
 rw [Int.toNat_natCast,getD_of (by omega),getD_of (by omega),getD_of (by omega)]
 unfold bth
 rw [List.getElem_zipWith]
theorem bth_lin {m:Rat} {a b:List Rat} (h:a.length=b.length):Lin m b a (bth m a b):=by
 intro n
 by_cases hn:n<b.length
 · have:=bth_get (m:=m) h hn
   unfold gq at this
   rw [Int.toNat_natCast] at this
   rw [this]
   grind
 · have:=bth_len (m:=m) h
   rw [List.getD_eq_getElem?_getD,List.getD_eq_getElem?_getD,List.getD_eq_getElem?_getD,List.getElem?_eq_none (by omega),List.getElem?_eq_none (by omega),List.getElem?_eq_none (by omega)]
   show (0:Rat)=0+0*m
   grind
theorem bth_Bd {m:Rat} {a b:List Rat} (hm:Bd 64 m) (ha:BdL 192 a) (hb:BdL 192 b) (h:a.length=b.length):BdL 4096 (bth m a b):=by
 intro y hy
 obtain ⟨j,hj,rfl⟩:=List.getElem_of_mem hy
 have hl:=bth_len (m:=m) h
 have e:=bth_get (m:=m) h (i:=j) (by omega)
 have e2:gq (bth m a b) j=(bth m a b)[j]:=by unfold gq;rw [Int.toNat_natCast];exact getD_of hj
 rw [← e2,e]
 exact (Bd_add (Bd_mul (gq_Bd ha (by omega) (by omega)) hm) (gq_Bd hb (by omega) (by omega))).mono (by omega)
theorem take_snoc {l:List Rat} {i:Nat} (hi:i<l.length):l.take (i+1)=l.take i++ [gq l i]:=by
 have:gq l (i:Int)=l[i]:=by unfold gq;rw [Int.toNat_natCast];exact getD_of hi
 rw [this,List.take_add_one,List.getElem?_eq_getElem hi]
 rfl
theorem en_SmR {n:Int} {x:Rat} (h:Bd n x) (hn:n≤60000):SmR (en x):=by
 have:=en_len h hn
 refine ⟨?_, ?_,this.1,this.2⟩
 · rw [en_parts];exact dg_Ws _
 · rw [en_parts];exact dg_Ws _
theorem map_de_en (l:List Rat):(l.map en).map de=l:=by
 induction l with
 | nil=>rfl
 | cons x l ih=>rw [List.map_cons,List.map_cons,de_en,ih]
end
theorem wf_rats {l:T RG.tRats} (h:RG.Wf RG.tRats l):List.length l≤maxLen∧WsR l:=⟨h.1,fun x hx=>⟨fun y hy=>wf_u64 ((h.2 x hx).2.1.2 y hy),fun y hy=>wf_u64 ((h.2 x hx).2.2.2 y hy)⟩⟩
theorem wf_prog {l:T RG.tProg} (h:RG.Wf RG.tProg l):List.length l≤maxLen∧WsI l:=⟨h.1,fun x hx=>⟨fun y hy=>wf_u64 ((h.2 x hx).2.2.2.2.1.2 y hy),fun y hy=>wf_u64 ((h.2 x hx).2.2.2.2.2.2 y hy)⟩⟩
theorem RV_31:RV (false,[3],[1]):=by unfold RV RR;decide
theorem RV_11:RV (false,[1],[1]):=by unfold RV RR;decide
theorem Sh_lit:Sh3 (false,[3],[1])∧Sh3 (false,[1],[1]):=⟨⟨Ws_lit2.2.1,Ws_lit2.2.2.1,by decide,by decide⟩,⟨Ws_lit2.2.2.1,Ws_lit2.2.2.1,by decide,by decide⟩⟩
theorem k_tOf:tOO (tOf kL2 [de (false,[3],[1])] [de (false,[1],[1])] [])=([(false,[3],[1]),(false,[9],[1])],[(false,[1],[1]),(false,[6],[1])],0,0):=by decide +kernel
theorem k_bkS:exO (bkS kL2 [de (false,[3],[1])] [] [de (false,[1],[1])] [1])=([(false,[6],[1])],0,0):=by decide +kernel
theorem k_Rq:Rq 1 1=(false,[1],[1])∧Rq 6 1=(false,[6],[1]):=by decide +kernel
theorem law17_same_c:Ev (fun k=>gradinelaw17_same.f k) true:=by
 have h3 : ∀ x∈ [((false,[3],[1]):R3)],Sh3 x:=by intro x hx;rw [List.mem_singleton.1 hx];exact Sh_lit.1
 have h1 : ∀ x∈ [((false,[1],[1]):R3)],Sh3 x:=by intro x hx;rw [List.mem_singleton.1 hx];exact Sh_lit.2
 have v3 : ∀ x∈ [((false,[3],[1]):R3)],RV x:=by intro x hx;rw [List.mem_singleton.1 hx];exact RV_31
 have v1 : ∀ x∈ [((false,[1],[1]):R3)],RV x:=by intro x hx;rw [List.mem_singleton.1 hx];exact RV_11
 have no : ∀ {P:R3→Prop},∀ x∈([]:List R3),P x:=fun x hx=>absurd hx (by simp)
 have E:=evals_ok (l:=kL2) (inn:= [(false,[3],[1])]) (forms:= []) (by decide) kL2_sh (by decide) (by decide) h3 no kL2_fit v3 no
 have B:=((Back_c (l:=kL2) (inn:= [(false,[3],[1])]) (forms:= []) (cots:= [(false,[1],[1])]) (outs:= [1]) (by decide) kL2_sh (by decide) (by decide) (by decide) h3 h1 no).2 rfl v1).2 kL2_fit E
 have O1:=ref07_Of_c (n:=1) (by omega) (by omega)
 have O6:=ref07_Of_c (n:=6) (by omega) (by omega)
 rw [k_Rq.1] at O1
 rw [k_Rq.2] at O6
 have T:Ev (fun k=>tangent_Of.f k kL2 [(false,[3],[1])] [(false,[1],[1])] []) (tOO (tOf kL2 [de (false,[3],[1])] [de (false,[1],[1])] [])):=Of_ok (l:=kL2) (by decide) kL2_sh (by decide) (dirs_ok h1) rfl v1 kL2_fit E
 rw [show [((false,[3],[1]):R3)].map de= [de (false,[3],[1])] from rfl,show [((false,[1],[1]):R3)].map de= [de (false,[1],[1])] from rfl,show ([]:List R3).map de= [] from rfl,k_bkS] at B
 rw [k_tOf] at T
 have S:Ev (fun k=>gr07_Same.f k false [6] [1] false [6] [1]) true:=Ev.eqr (ref07_Same_c (by decide) (by decide)) (by decide)
 refine Ev.bindc (x:=gradinelaw17_three.f) rfl (Ev.bind O1 (Ev.bind T (Ev.bindc (x:=gradinelaw17_three.f) rfl (Ev.bind O1 (Ev.bind B ?_)))))
 exact Ev.ifp rfl (Ev.ifp rfl (Ev.ifp (by decide) (Ev.ifp (by decide) (Ev.bind O6 (Ev.bind S (Ev.ifp rfl (Ev.ifp (by decide) (Ev.ifp (by decide) (Ev.bind O6 (Ev.bind S (Ev.same rfl)))))))))))
end Go.Proofs.YtjocbnjpjihpnaaGreat.M
