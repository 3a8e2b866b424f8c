/- What the functions answer, over plain numbers. -/
import Derived.Test.YtjocbnjpjihpnaaGreatBB
import Derived.Test.YtjocbnjpjihpnaaGreatCCa
import Derived.Test.YtjocbnjpjihpnaaGreatFgradinelaw18does
import Derived.Test.YtjocbnjpjihpnaaGreatFgradinelaw18Step
import Derived.Test.YtjocbnjpjihpnaaGreatFgradinelaw18ref
namespace Go.Proofs.YtjocbnjpjihpnaaGreat.M
open Go.RowKit Go.Proofs.YtjocbnjpjihpnaaGreat.P Go.Proofs.YtjocbnjpjihpnaaGreatW.AH Go.Proofs.YtjocbnjpjihpnaaGreatW.AX Go.Proofs.YtjocbnjpjihpnaaGreatW.Ad
set_option linter.unusedVariables false
theorem AAc {x y:Int} (hx:0<=x) (hy:0<=y) (bx:bl x<=600000000) (by_:bl y<=600000000):Ev (λk=>N3.f k (dg x) (dg y)) (decide (x=y)):=by
 have w1:Wl (dg x):=Av (by omega);have w2:Wl (dg y):=Av (by omega);have R1:=cq w1;have R2:=cq w2;have C:=Vc w1 w2;rw[AR hx,decide_eq_true rfl] at R1;rw[AR hy,decide_eq_true rfl] at R2;rw[AR hx,AR hy] at C;refine Ev.AP R1 (Ev.AK rfl (Ev.AP R2 (Ev.AK rfl (Ev.bind C (Ev.same ?_)))))
 congr 1
 unfold Gt;by_cases h:x=y
 · rw[decide_eq_true h,if_neg (by omega),if_neg (by omega)];rfl
 · rw[decide_eq_false h]
   split
   · rfl
   · rw[if_pos (by omega)];rfl
theorem oh {x y:Int} (s s':Bool) (hx:0<=x) (hy:0<=y) (bx:bl x<=600000000) (by_:bl y<=600000000) :
 ∃(t:Bool) (m:Int),Ev (λk=>Ol.f k s (dg x) s' (dg y)) (t,dg m)/\0<=m/\bl m<=600000001/\FG t m=FG s x+FG s' y:=by
 have w1:Wl (dg x):=Av (by omega);have w2:Wl (dg y):=Av (by omega);have l1:=AN x;have l2:=AN y;by_cases hs:(s==s')=true
 · have e:=eq_of_beq hs
   have A:=bF w1 w2 (by omega) (by omega);rw[AR hx,AR hy] at A;refine⟨s,x+y,Ev.AK hs (Ev.bind A (Ev.same rfl)),by omega, ?_, ?_⟩
   · have:=Tt hx hy (m:=600000000) bx by_;omega
   · rw[<-e];unfold FG;cases s<;>simp<;>omega
 · have e:s'= !s:=by cases s<;>cases s'<;>simp_all
   by_cases hge:y<=x
   · have S:=bG w1 w2 (by rw[AR hx,AR hy];exact hge)
     rw[AR hx,AR hy] at S;refine⟨s,x-y,Ev.AM hs (Ev.bind S (Ev.AK rfl (Ev.same rfl))),by omega, ?_, ?_⟩
     · have:=Bq (show x-y<=x by omega);omega
     · rw[e];unfold FG;cases s<;>simp<;>omega
   · have N:=AAd w1 w2 (by rw[AR hx,AR hy];omega)
     have S:=bG w2 w1 (by rw[AR hx,AR hy];omega);rw[AR hx,AR hy] at S;refine⟨s',y-x,Ev.AM hs (Ev.bind N (Ev.AM (by decide) (Ev.bind S (Ev.same rfl)))),by omega, ?_, ?_⟩
     · have:=Bq (show y-x<=y by omega);omega
     · rw[e];unfold FG;cases s<;>simp<;>omega
theorem Q6 {x:Int} (hx:0<x) (bx:bl x<=600000000):Ev (λk=>Im.f k (dg x)) (dg x):=by
 have B:=Hj (l:=dg x) (Av (by omega));rw[AR (by omega)] at B;have:=C9 hx;exact Ev.bind B (Ev.AM (by omega) (Ev.same rfl))
theorem bH {n d:Int} (neg:Bool) (hn:0<=n) (hd:0<d) (bn:bl n<=630000000) (bd:bl d<=630000000):Ev (λk=>Fm.f k neg (dg n) (dg d)) (Rq (FG neg n) d):=by
 have ln:=AN n;have ld:=AN d;have:=rz neg (a:=dg n) (b:=dg d) (Av (by omega)) (Av (by omega)) (by omega) (by omega) (by rw[AR (by omega)];exact hd)
 rwa [AR hn,AR (by omega)] at this
def ADZ (S D:Int):Prop:=0<D/\bl (ab S)<=100000000/\bl D<=100000000
theorem Fit.big {S D:Int} (h:Fit S D):ADZ S D:=⟨h.1,by have:=h.2.1;omega,by have:=h.2.2;omega⟩
theorem g9 {S D:Int} (h:ADZ S D) : ∃N E:Int,Rq S D=(decide (S<0),dg N,dg E)/\0<=N/\0<E/\bl N<=100000000/\bl E<=100000000/\FG (decide (S<0)) N*D=S*E/\(N=0↔S=0):=by
 obtain⟨N,E,h1,h2,h3,h4,h5,h6,h7,h8⟩:=Q7 S h.1;have:=Bq h4;have:=Bq h5;have:=h.2;exact⟨N,E,h1,h2,h3,by omega,by omega,om h6 h7,h7⟩
theorem ADa {S D S' D':Int} (h:ADZ S D) (h':ADZ S' D'):Ev (λk=>Ky.f k (Rq S D).1 (Rq S D).2.1 (Rq S D).2.2 (Rq S' D').1 (Rq S' D').2.1 (Rq S' D').2.2) (Rq (S*D'+S'*D) (D*D')):=by
 obtain⟨N,E,h1,h2,h3,h4,h5,h6,h7⟩:=g9 h;obtain⟨N',E',k1,k2,k3,k4,k5,k6,k7⟩:=g9 h';rw[h1,k1];dsimp only;have dd:0<D*D':=AU3 h.1 h'.1;refine Ev.bind (AAc (AUE h3) (AUE k3) (by omega) (by omega)) ?_;by_cases hE:E=E'
 · refine Ev.AK (decide_eq_true hE) ?_
   obtain⟨t,m,q1,q2,q3,q4⟩:=oh (decide (S<0)) (decide (S'<0)) h2 k2 (by omega) (by omega);refine Ev.bind q1 (Ev.bind (Q6 h3 (by omega)) (Ev.bind (bH t q2 h3 (by omega) (by omega)) (Ev.same ?_)));rw[q4]
   congr 1
   have e:Rq (FG (decide (S<0)) N+FG (decide (S'<0)) N') E=Rq (S*D'+S'*D) (D*D'):=by
    refine WR h3 dd ?_;generalize FG (decide (S<0)) N=σ at *;generalize FG (decide (S'<0)) N'=σ' at *;subst hE;have a1:(σ+σ')*(D*D')=(σ*D)*D'+(σ'*D')*D:=(by grind);have a2:(S*D'+S'*D)*E=(S*E)*D'+(S'*E)*D:=(by grind);rw[a1,a2,h6,k6]
   rw[e]
 · refine Ev.AM (by simp[hE]) ?_
   have lN:=AN N;have lE:=AN E;have lN':=AN N';have lE':=AN E';have M1:=Q8 (a:=dg N) (b:=dg E') (Av (by omega)) (Av (by omega)) (by omega) (by omega);have M2:=Q8 (a:=dg N') (b:=dg E) (Av (by omega)) (Av (by omega)) (by omega) (by omega);have M3:=Q8 (a:=dg E) (b:=dg E') (Av (by omega)) (Av (by omega)) (by omega) (by omega);rw[AR h2,AR (AUE k3)] at M1;rw[AR k2,AR (AUE h3)] at M2;rw[AR (AUE h3),AR (AUE k3)] at M3;have b1:=Dt h2 (AUE k3);have b2:=Dt k2 (AUE h3);have b3:=Dt (AUE h3) (AUE k3);have x0:0<=N*E':=AUM h2 (AUE k3);have y0:0<=N'*E:=AUM k2 (AUE h3);have d0:0<E*E':=AU3 h3 k3;obtain⟨t,m,q1,q2,q3,q4⟩:=oh (decide (S<0)) (decide (S'<0)) x0 y0 (by omega) (by omega);refine Ev.bind M1 (Ev.bind M2 (Ev.bind q1 (Ev.bind M3 (Ev.bind (Q6 d0 (by omega)) (Ev.bind (bH t q2 d0 (by omega) (by omega)) (Ev.same ?_))))));rw[q4]
   congr 1
   have e:Rq (FG (decide (S<0)) (N*E')+FG (decide (S'<0)) (N'*E)) (E*E')=Rq (S*D'+S'*D) (D*D'):=by
    refine WR d0 dd ?_;have m1:FG (decide (S<0)) (N*E')=FG (decide (S<0)) N*E':=(by unfold FG;cases decide (S<0)<;>simp[AVX]);have m2:FG (decide (S'<0)) (N'*E)=FG (decide (S'<0)) N'*E:=(by unfold FG;cases decide (S'<0)<;>simp[AVX]);rw[m1,m2];generalize FG (decide (S<0)) N=σ at *;generalize FG (decide (S'<0)) N'=σ' at *;have a1:(σ*E'+σ'*E)*(D*D')=(σ*D)*(D'*E')+(σ'*D')*(D*E):=(by grind);have a2:(S*D'+S'*D)*(E*E')=(S*E)*(D'*E')+(S'*E')*(D*E):=(by grind);rw[a1,a2,h6,k6]
   rw[e]
theorem oo {S D S' D':Int} (h:Fit S D) (h':Fit S' D'):Ev (λk=>Ky.f k (Rq S D).1 (Rq S D).2.1 (Rq S D).2.2 (Rq S' D').1 (Rq S' D').2.1 (Rq S' D').2.2) (Rq (S*D'+S'*D) (D*D')):=ADa h.big h'.big
theorem wS {n:Int} (h0 : -9223372036854775808<=n) (h1:n<=9223372036854775807):Ev (λk=>Tm.f k n) (Rq n 1):=by
 have g:ab n/gc (ab n) 1=ab n/\(1:Int)/gc (ab n) 1=1:=by
  rw[AAe (Dy n),AU9];exact⟨rfl,rfl⟩
 by_cases hn:n<0
 · have e:IntKind.u64.wrap (-(IntKind.u64.wrap n))= -n:=by
    show Int.emod _ _=_;have:IntKind.u64.wrap n=n+18446744073709551616:=by
     show n%18446744073709551616=_;omega
    rw[this];show(-(n+18446744073709551616))%18446744073709551616=_;omega
   refine Ev.AK hn ?_;rw[e];refine Ev.bind (Tu (by unfold U;omega)) (Ev.AP (a:= [1]) rfl (Ev.same ?_));unfold Rq;rw[if_neg (by omega),g.1,g.2,kD,decide_eq_true hn];unfold ab;rw[if_pos hn]
 · refine Ev.AM hn ?_
   rw[DC (n:=n) (by omega) (by omega)];refine Ev.bind (Tu (by unfold U;omega)) (Ev.AP (a:= [1]) rfl (Ev.same ?_));unfold Rq;by_cases hz:n=0
   · rw[if_pos hz,hz,IZ]
   · rw[if_neg hz,g.1,g.2,kD,decide_eq_false hn]
     unfold ab;rw[if_neg hn]
theorem Q2 {n:Int} (h0 : -9223372036854775808<=n) (h1:n<=9223372036854775807):Ev (λk=>KE.f k n) (Rq n 1):=by
 have w1:Wl [1]:=⟨Gf (by unfold U;omega),by decide⟩;by_cases hn:n<0
 · have e:IntKind.u64.wrap (-(IntKind.u64.wrap n))= -n:=by
    have:IntKind.u64.wrap n=n+18446744073709551616:=by
     show n%18446744073709551616=_;omega
    rw[this];show(-(n+18446744073709551616))%18446744073709551616=_;omega
   refine Ev.AK hn ?_;rw[e];have M:=Q9 true (a:= [-n]) (b:= [1]) ⟨Gf (by unfold U;omega),by simp⟩ w1 (by simp) (by decide) (by rw[Fp];omega);rw[Fp,Fp,show FG true (-n)=n by unfold FG;simp] at M;exact Ev.bind M (Ev.same rfl)
 · refine Ev.AM hn ?_
   rw[DC (n:=n) (by omega) (by omega)];have M:=Q9 false (a:= [n]) (b:= [1]) ⟨Gf (by unfold U;omega),by simp⟩ w1 (by simp) (by decide) (by rw[Fp];omega);rw[Fp,Fp,show FG false n=n by unfold FG;simp] at M;exact Ev.bind M (Ev.same rfl)
theorem ALK {S D:Int} (h:Fit S D):(Rq S D).2.1.length<=300/\(Rq S D).2.2.length<=300/\Wl (Rq S D).2.1/\Wl (Rq S D).2.2:=by
 obtain⟨N,E,h1,h2,h3,h4,h5,h6,h7⟩:=Pk h;have a:=AN N;have b:=AN E;rw[h1];dsimp only;exact⟨by omega,by omega,Av (by omega),Av (by omega)⟩
theorem hO {x:Int} (hx:0<=x) (bx:bl x<=60000):Ev (λk=>Ay.f k (dg x)) (dg x):=by
 have T:=DL (l:=dg x) (Av (by omega));rw[AR hx] at T;exact T
theorem ALL (S:Int) {D:Int} (hD:0<D):Rq (-S) D=(decide (0<S),(Rq S D).2.1,(Rq S D).2.2):=by
 have e:ab (-S)=ab S:=by unfold ab;split<;>split<;>omega
 unfold Rq;rw[e];by_cases h:S=0
 · rw[if_pos h,if_pos (by omega),decide_eq_false (by omega)]
 · rw[if_neg h,if_neg (by omega)]
   congr 1
   exact decide_eq_decide.2 (by omega)
theorem oq {S D:Int} (h:Fit S D):Ev (λk=>L5.f k (Rq S D).1 (Rq S D).2.1 (Rq S D).2.2) (Rq (-S) D):=by
 rw[ALL S h.1];obtain⟨N,E,h1,h2,h3,h4,h5,h6,h7⟩:=Pk h;rw[h1];dsimp only;have T1:=hO h2 (by omega);have T2:=hO (AUE h3) (by omega);have lN:=AN N;have B:=Hj (l:=dg N) (Av (by omega));rw[AR h2] at B;by_cases hs:S<0
 · rw[decide_eq_true hs,decide_eq_false (show¬0<S by omega)]
   exact Ev.AK rfl (Ev.bind T1 (Ev.bind T2 (Ev.same rfl)))
 · rw[decide_eq_false hs]
   refine Ev.AM (by decide) (Ev.bind B (Ev.bind T1 (Ev.bind T2 (Ev.same ?_))))
   congr 2
   refine decide_eq_decide.2 ?_;rcases(show N=0\/0<N by omega) with k | k
   · rw[k,L8];have:=h7.1 k;omega
   · have:=C9 k;have:S≠0:=λq=>by have:=h7.2 q;omega
     omega
theorem ot {S D S' D':Int} (h:Fit S D) (h':Fit S' D'):Ev (λk=>L6.f k (Rq S D).1 (Rq S D).2.1 (Rq S D).2.2 (Rq S' D').1 (Rq S' D').2.1 (Rq S' D').2.2) (Rq (S*D'-S'*D) (D*D')):=by
 refine Ev.bind (oq h') (Ev.bind (oo h (ACf h')) (Ev.same ?_));rw[AVX];rfl
theorem ADb {S D:Int} (h:Fit S D):Ev (λk=>Is.f k (Rq S D).1 (Rq S D).2.1 (Rq S D).2.2) (AAf S):=by
 obtain⟨N,E,h1,h2,h3,h4,h5,h6,h7⟩:=Pk h;rw[h1];have G:=XW (a:=dg N) (b:=dg E) (decide (S<0)) (Av (by omega));refine Ev.WS G ?_;rw[AR h2];unfold AAf;by_cases hz:S=0
 · rw[if_pos (h7.2 hz),if_pos hz]
 · rw[if_neg (λk=>hz (h7.1 k)),if_neg hz]
   by_cases hs:S<0
   · rw[if_pos hs,if_pos (decide_eq_true hs)]
   · rw[if_neg hs,if_neg (by rw[decide_eq_false hs];decide)]
def Fb (n S D:Int):Prop:=0<D/\bl (ab S)<=n/\bl D<=n
theorem AGU {n S D:Int} (h:Fb n S D) (hn:n<=14000):Fit S D:=⟨h.1,by have:=h.2.1;omega,by have:=h.2.2;omega⟩
theorem AIZ (x y:Int):ab (x*y)=ab x*ab y:=by
 rcases AU1 y 0 with h | h
 · have e:x*y=(-x)*(-y):=by rw[Int.neg_mul_neg]
   have a1:ab (-x)=ab x:=(by unfold ab;split<;>split<;>omega);have a2:ab y= -y:=(by unfold ab;rw[if_pos h]);rw[e,bI _ (show 0 < -y by omega),a1,a2]
 · rcases(show y=0\/0<y by omega) with k | k
   · rw[k,AVN,show ab 0=0 from rfl,AVN]
   · rw[bI _ k]
     have:ab y=y:=(by unfold ab;rw[if_neg (by omega)]);rw[this]
theorem ALM (x y:Int):ab (x+y)<=ab x+ab y:=by unfold ab;split<;>split<;>split<;>omega
theorem AGV {n S D:Int} (h:Fb n S D):Fb n (-S) D:=by
 have:ab (-S)=ab S:=by unfold ab;split<;>split<;>omega
 unfold Fb;rw[this];exact h
theorem AGW {n m S D S' D':Int} (h:Fb n S D) (h':Fb m S' D'):Fb (n+m+1) (S*D'+S'*D) (D*D'):=by
 have e1:ab (S*D')=ab S*D':=bI S h'.1;have e2:ab (S'*D)=ab S'*D:=bI S' h.1;have b1:=Dt (Dy S) (AUE h'.1);have b2:=Dt (Dy S') (AUE h.1);have b3:=Dt (AUE h.1) (AUE h'.1);have hh:=h.2;have hh':=h'.2;have n1:0<=ab S*D':=AUM (Dy S) (AUE h'.1);have n2:0<=ab S'*D:=AUM (Dy S') (AUE h.1);have b4:=Tt n1 n2 (m:=n+m) (by omega) (by omega);have a:=ALM (S*D') (S'*D);rw[e1,e2] at a;have:=Bq a;exact⟨AU3 h.1 h'.1,by omega,by omega⟩
theorem AGX {n m S D S' D':Int} (h:Fb n S D) (h':Fb m S' D'):Fb (n+m) (S*S') (D*D'):=by
 have b1:=Dt (Dy S) (Dy S');have b3:=Dt (AUE h.1) (AUE h'.1);have hh:=h.2;have hh':=h'.2;refine⟨AU3 h.1 h'.1, ?_,by omega⟩;rw[AIZ];omega
theorem iA (s s':Bool) (x y:Int):FG s x*FG s' y=FG (s !=s') (x*y):=by
 unfold FG;cases s<;>cases s'<;>simp[AVX,Int.mul_neg]
theorem ADc {S D S' D':Int} (h:ADZ S D) (h':ADZ S' D'):Ev (λk=>Kz.f k (Rq S D).1 (Rq S D).2.1 (Rq S D).2.2 (Rq S' D').1 (Rq S' D').2.1 (Rq S' D').2.2) (Rq (S*S') (D*D')):=by
 obtain⟨N,E,h1,h2,h3,h4,h5,h6,h7⟩:=g9 h;obtain⟨N',E',k1,k2,k3,k4,k5,k6,k7⟩:=g9 h';rw[h1,k1];dsimp only;have lN:=AN N;have lE:=AN E;have lN':=AN N';have lE':=AN E';have R1:=RA (a:=dg N) (b:=dg E') (Av (by omega)) (Av (by omega)) (by omega) (by omega);have R2:=RA (a:=dg N') (b:=dg E) (Av (by omega)) (Av (by omega)) (by omega) (by omega);rw[AR h2,AR (AUE k3)] at R1;rw[AR k2,AR (AUE h3)] at R2;have g1:=ACg h2 k3;have g2:=ACg k2 h3;have s1:=Ix h2 (AUE k3);have s2:=Ix k2 (AUE h3);have p1:=RB (a:=N) (b:=E') (.inr k3);have p2:=RB (a:=N') (b:=E) (.inr h3);have dd:0<D*D':=AU3 h.1 h'.1;generalize N/gc N E'=n1 at *;generalize E'/gc N E'=e1 at *;generalize N'/gc N' E=n2 at *;generalize E/gc N' E=e2 at *;have m1:=Bq g1.1;have m2:=Bq g1.2.1;have m3:=Bq g2.1;have m4:=Bq g2.2.1;have M1:=cr (x:=n1) (y:=n2) g1.2.2.2 g2.2.2.2 (by omega) (by omega);have M2:=cr (x:=e2) (y:=e1) (AUE g2.2.2.1) (AUE g1.2.2.1) (by omega) (by omega);have b1:=Dt g1.2.2.2 g2.2.2.2;have b2:=Dt (AUE g2.2.2.1) (AUE g1.2.2.1);have d0:0<e2*e1:=AU3 g2.2.2.1 g1.2.2.1;have n0:0<=n1*n2:=AUM g1.2.2.2 g2.2.2.2;refine Ev.bind (Q6 k3 (by omega)) (Ev.bind R1 (Ev.bind (Q6 h3 (by omega)) (Ev.bind R2 (Ev.bind M1 (Ev.bind M2 (Ev.bind (bH _ n0 d0 (by omega) (by omega)) (Ev.same ?_)))))));have e:Rq (FG (decide (S<0) !=decide (S'<0)) (n1*n2)) (e2*e1)=Rq (S*S') (D*D'):=by
  refine WR d0 dd ?_;generalize gc N E'=g at *;generalize gc N' E=g' at *;have q:0<g*g':=AU3 p1 p2;refine AVn (show g*g'≠0 by omega) ?_;rw[<-iA];have t1:FG (decide (S<0)) N=FG (decide (S<0)) n1*g:=by rw[<-s1.1];unfold FG;cases decide (S<0)<;>simp[AVX]
  have t2:FG (decide (S'<0)) N'=FG (decide (S'<0)) n2*g':=by rw[<-s2.1];unfold FG;cases decide (S'<0)<;>simp[AVX]
  rw[t1,<-s2.2] at h6;rw[t2,<-s1.2] at k6;generalize FG (decide (S<0)) n1=σ at *;generalize FG (decide (S'<0)) n2=σ' at *;have a1:σ*σ'*(D*D')*(g*g')=(σ*g*D)*(σ'*g'*D'):=by grind
  have a2:S*S'*(e2*e1)*(g*g')=(S*(e2*g'))*(S'*(e1*g)):=by grind
  rw[a1,a2,h6,k6]
 rw[<-e]
theorem ou {S D S' D':Int} (h:Fit S D) (h':Fit S' D'):Ev (λk=>Kz.f k (Rq S D).1 (Rq S D).2.1 (Rq S D).2.2 (Rq S' D').1 (Rq S' D').2.1 (Rq S' D').2.2) (Rq (S*S') (D*D')):=ADc h.big h'.big
def IS (S D:Int):Int:=FG (decide (S<0)) D
theorem AGY {n S D:Int} (h:Fb n S D) (hS:S≠0):Fb n (IS S D) (ab S):=by
 have:=Dy S;have h1:ab S≠0:=λk=>hS (RC.1 k)
 have:ab (IS S D)=D:=by
  have:=h.1;unfold IS ab FG;split<;>split<;>omega
 exact⟨by omega,by rw[this];exact h.2.2,h.2.1⟩
theorem AIa {S D:Int} (h:Fit S D) (hS:S≠0):Fit (IS S D) (ab S):=by
 have:=AGY (n:=14000) (S:=S) (D:=D) ⟨h.1,h.2.1,h.2.2⟩ hS;exact⟨this.1,this.2.1,this.2.2⟩
theorem ADd {S D:Int} (h:Fit S D):Ev (λk=>Q3.f k (Rq S D).1 (Rq S D).2.1 (Rq S D).2.2) (if S=0 then(false,[],[],4) else((Rq (IS S D) (ab S)).1,(Rq (IS S D) (ab S)).2.1,(Rq (IS S D) (ab S)).2.2,0)):=by
 obtain⟨N,E,h1,h2,h3,h4,h5,h6,h7,h8⟩:=Q7 S h.1;have b1:=Bq h4;have b2:=Bq h5;have hh:=h.2;rw[h1];dsimp only;have B:=Hj (l:=dg N) (Av (by omega));rw[AR h2] at B;refine Ev.bind B ?_;by_cases hz:S=0
 · rw[if_pos hz]
   exact Ev.AK (by rw[h7.2 hz];rfl) (Ev.same rfl)
 · rw[if_neg hz]
   have hN:0<N:=by
    have:N≠0:=λk=>hz (h7.1 k)
    omega
   have:=C9 hN;refine Ev.AM (by omega) (Ev.bind (hO (AUE h3) (by omega)) (Ev.bind (hO h2 (by omega)) (Ev.same ?_)));have e:Rq (IS S D) (ab S)=(decide (S<0),dg E,dg N):=by
    have a0:0<ab S:=by
     have:=Dy S;have:ab S≠0:=λk=>hz (RC.1 k)
     omega
    have e1:Rq (IS S D) (ab S)=Rq (FG (decide (S<0)) E) N:=by
     refine WR a0 hN ?_;unfold IS FG;cases decide (S<0)
     · simp only[AVI,if_false];rw[AUQ,h6,AUQ]
     · simp only[if_true];rw[AVX,AVX,AUQ,h6,AUQ]
    rw[e1,AGZ _ h3,K3,h8,AU9,AU9]
   rw[e]
theorem ADe {S D S' D':Int} (h:Fit S D) (h':Fit S' D'):Ev (λk=>L7.f k (Rq S D).1 (Rq S D).2.1 (Rq S D).2.2 (Rq S' D').1 (Rq S' D').2.1 (Rq S' D').2.2) (if S'=0 then(false,[],[],4) else((Rq (S*IS S' D') (D*ab S')).1,(Rq (S*IS S' D') (D*ab S')).2.1,(Rq (S*IS S' D') (D*ab S')).2.2,0)):=by
 refine Ev.bind (ADd h') ?_;by_cases hz:S'=0
 · rw[if_pos hz,if_pos hz]
   exact Ev.AM (by decide) (Ev.same rfl)
 · rw[if_neg hz,if_neg hz]
   exact Ev.AK rfl (Ev.bind (ou h (AIa h' hz)) (Ev.same rfl))
theorem ADf {S D S' D':Int} (h:Fit S D) (h':Fit S' D') (hF:Fit (S*D'-S'*D) (D*D')):Ev (λk=>Q5.f k (Rq S D).1 (Rq S D).2.1 (Rq S D).2.2 (Rq S' D').1 (Rq S' D').2.1 (Rq S' D').2.2) (AAf (S*D'-S'*D)) :=
 Ev.bind (ot h h') (Ev.bind (ADb hF) (Ev.same rfl))
theorem wT {S D S' D':Int} (h:Fit S D) (h':Fit S' D'):Ev (λk=>MN.f k (Rq S D).1 (Rq S D).2.1 (Rq S D).2.2 (Rq S' D').1 (Rq S' D').2.1 (Rq S' D').2.2) (Rq (S*S') (D*D')):=by
 obtain⟨N,E,h1,h2,h3,h4,h5,h6,h7⟩:=Pk h;obtain⟨N',E',k1,k2,k3,k4,k5,k6,k7⟩:=Pk h';rw[h1,k1];dsimp only;have lN:=AN N;have lE:=AN E;have lN':=AN N';have lE':=AN E';have M1:=FP (a:=dg N) (b:=dg N') (Av (by omega)) (Av (by omega)) (by omega) (by omega);have M2:=FP (a:=dg E) (b:=dg E') (Av (by omega)) (Av (by omega)) (by omega) (by omega);rw[AR h2,AR k2] at M1;rw[AR (AUE h3),AR (AUE k3)] at M2;have b1:=Dt h2 k2;have b2:=Dt (AUE h3) (AUE k3);have d0:0<E*E':=AU3 h3 k3;have n0:0<=N*N':=AUM h2 k2;have dd:0<D*D':=AU3 h.1 h'.1;refine Ev.bind M1 (Ev.bind M2 (Ev.bind (Vd _ n0 d0 (by omega) (by omega)) (Ev.same ?_)));have e:Rq (FG (decide (S<0) !=decide (S'<0)) (N*N')) (E*E')=Rq (S*S') (D*D'):=by
  refine WR d0 dd ?_;rw[<-iA];generalize FG (decide (S<0)) N=σ at *;generalize FG (decide (S'<0)) N'=σ' at *;have a1:σ*σ'*(D*D')=(σ*D)*(σ'*D'):=by grind
  have a2:S*S'*(E*E')=(S*E)*(S'*E'):=by grind
  rw[a1,a2,h6,k6]
 rw[<-e]
theorem wU {S D S' D':Int} (h:Fit S D) (h':Fit S' D') (hz:S'≠0):Ev (λk=>J4.f k (Rq S D).1 (Rq S D).2.1 (Rq S D).2.2 (Rq S' D').1 (Rq S' D').2.1 (Rq S' D').2.2) (Rq (S*IS S' D') (D*ab S')):=by
 obtain⟨N,E,h1,h2,h3,h4,h5,h6,h7⟩:=Pk h;obtain⟨N',E',k1,k2,k3,k4,k5,k6,k7⟩:=Pk h';have kN:0<N':=by
  have:N'≠0:=λk=>hz (k7.1 k)
  omega
 rw[h1,k1];dsimp only;have lN:=AN N;have lE:=AN E;have lN':=AN N';have lE':=AN E';have M1:=FP (a:=dg N) (b:=dg E') (Av (by omega)) (Av (by omega)) (by omega) (by omega);have M2:=FP (a:=dg E) (b:=dg N') (Av (by omega)) (Av (by omega)) (by omega) (by omega);rw[AR h2,AR (AUE k3)] at M1;rw[AR (AUE h3),AR k2] at M2;have b1:=Dt h2 (AUE k3);have b2:=Dt (AUE h3) k2;have d0:0<E*N':=AU3 h3 kN;have n0:0<=N*E':=AUM h2 (AUE k3);have a0:0<ab S':=by
  have:=Dy S';have:ab S'≠0:=λk=>hz (RC.1 k)
  omega
 have dd:0<D*ab S':=AU3 h.1 a0;refine Ev.bind M1 (Ev.bind M2 (Ev.bind (Vd _ n0 d0 (by omega) (by omega)) (Ev.same ?_)));have e:Rq (FG (decide (S<0) !=decide (S'<0)) (N*E')) (E*N')=Rq (S*IS S' D') (D*ab S'):=by
  refine WR d0 dd ?_;rw[<-iA];unfold IS;have q:FG (decide (S'<0)) E'*ab S'=FG (decide (S'<0)) D'*N':=by
   have e:ab S'=FG (decide (S'<0)) S':=by
    unfold ab FG;by_cases k:S'<0
    · rw[if_pos k,if_pos (decide_eq_true k)]
    · rw[if_neg k,if_neg (by rw[decide_eq_false k];decide)]
   rw[e,iA,bne_self_eq_false];unfold FG at k6 ⊢;revert k6;cases decide (S'<0)
   · simp only[AVI,if_false];intro k6;rw[AUQ,<-k6,AUQ]
   · simp only[if_true,AVI,if_false];intro k6;rw[AVX] at k6;rw[AVX,AUQ D' N',AUQ E' S',<-k6]
  generalize FG (decide (S<0)) N=σ at *;generalize FG (decide (S'<0)) E'=σ' at *;generalize FG (decide (S'<0)) D'=δ at *;have a1:σ*σ'*(D*ab S')=(σ*D)*(σ'*ab S'):=by grind
  have a2:S*δ*(E*N')=(S*E)*(δ*N'):=by grind
  rw[a1,a2,h6,q]
 rw[<-e]
theorem r6 {S D:Int} (hD:0<D):G6.f (Rq S D).1 (Rq S D).2.1 (Rq S D).2.2=some (decide (S=0)):=by
 obtain⟨N,E,h1,h2,h3,h4,h5,h6,h7,h8⟩:=Q7 S hD;rw[h1];unfold G6.f;show some _=some _
 congr 1
 have:((dg N).length:Int)=0↔S=0:=⟨λk=>h7.1 ((C1 h2).1 (by omega)),λk=>by rw[h7.2 k];rfl⟩;by_cases hz:S=0
 · rw[decide_eq_true hz]
   simpa using this.2 hz
 · rw[decide_eq_false hz]
   exact beq_eq_false_iff_ne.2 (λk=>hz (this.1 k))
theorem AGa {a b G:Int} (hG:0<G) (hq:a/G=b/G) (hz:a%G=0↔b%G=0):(-a)/G=(-b)/G/\((-a)%G=0↔(-b)%G=0):=by
 have key : ∀x:Int,(x%G=0->(-x)/G= -(x/G)/\(-x)%G=0)/\(x%G≠0->(-x)/G= -(x/G)-1/\(-x)%G=G-x%G):=by
  intro x;have h1:=AUV x G;have h2:=AUe x (show G≠0 by omega);have h3:=AUd x hG;constructor
  · intro h
    exact(AWv hG).2 ⟨by rw[Int.mul_neg];omega,by omega,by omega⟩
  · intro h
    exact(AWv hG).2 ⟨by rw[Int.mul_sub,Int.mul_neg,AUk];omega,by omega,by omega⟩
 have ka:=key a;have kb:=key b;have b3:=AUd b hG;have a3:=AUd a hG;by_cases h:a%G=0
 · have h':=hz.1 h
   exact⟨by rw[(ka.1 h).1,(kb.1 h').1,hq],by simp[(ka.1 h).2,(kb.1 h').2]⟩
 · have h':=λk=>h (hz.2 k)
   refine⟨by rw[(ka.2 h).1,(kb.2 h').1,hq], ?_⟩;rw[(ka.2 h).2,(kb.2 h').2];omega
theorem wV {a b G:Int} (K:Int) (hq:a/G=b/G) (hz:a%G=0↔b%G=0) (hG:0<G):(G*K+a)/G=(G*K+b)/G/\((G*K+a)%G=0↔(G*K+b)%G=0):=by
 rw[AVr (G*K),AVr (G*K),AUy _ _ (by omega),AUy _ _ (by omega),AU6,AU6];exact⟨by rw[hq],hz⟩
theorem AJ8 {n:Int} (h0:0<=n) (s:Nat):st n s<=n/2^s+1:=by
 unfold st;split<;>omega
theorem ALN {m e n f:Int} (hm0:0<=m) (hm:m<9007199254740992) (hn0:0<=n) (hn:n<9007199254740992) (hef:f<=e) (hf : -1074<=f) (hw:e= -1074\/4503599627370496<=m) {up s:Nat} (hup:(up:Int)=min (e-f) 10) (hs:e-up-f=s) :
 Rd (m*2^up+st n s) (e-up)=Rd (m*2^(e-f).toNat+n) f /\
 (m*2^up>st n s↔m*2^(e-f).toNat>n)/\(m*2^up<st n s↔m*2^(e-f).toNat<n) /\
 (m*2^up>st n s->Rd (m*2^up-st n s) (e-up)=Rd (m*2^(e-f).toNat-n) f) /\
 (m*2^up<st n s->Rd (st n s-m*2^up) (e-up)=Rd (n-m*2^(e-f).toNat) f):=by
 rcases(show s=0\/0<s by omega) with rfl | hs0
 · rw[AIb,show(e-f).toNat=up by omega,show e-(up:Int)=f by omega]
   exact⟨rfl,Iff.rfl,Iff.rfl,λ_=>rfl,λ_=>rfl⟩
 · obtain rfl:up=10:=by omega
   have hm2:4503599627370496<=m:=(by omega);have hG:(0:Int)<2^s:=pow_pos s;have hG2:(0:Int)<2^(s+1):=pow_pos _;have hge:(2:Int)<=2^s:=by
    have:=Ar (a:=1) (b:=s) (by omega);omega
   have eX:m*2^(e-f).toNat=2^(s+1)*(m*512):=by
    rw[show(e-f).toNat=s+1+9 by omega,AUZ];generalize (2:Int)^(s+1)=G;rw[show(2:Int)^9=512 from rfl]
    grind
   have hY:=AJ8 hn0 s;have hY0:=ow hn0 s;have hYn:n/2^s<=n:=AU2 _ hn0;have hc:=ACh n s;have hcn:=AGa hG2 hc.1 hc.2;have ca:=wV (m*512) hc.1 hc.2 hG2;have cn:=wV (m*512) hcn.1 hcn.2 hG2;have hX:4503599627370496*512*2^(s+1)<=2^(s+1)*(m*512):=by
    rw[AUQ];exact AUb (by omega) (by omega)
   have ee:e-((10:Nat):Int)=f+s:=(by omega);have e10:m*2^10=m*1024:=rfl;rw[ee,eX,e10];have p1:(2:Int)^(s+1)=2^s*2:=AUY ..;have s1:(m*1024+st n s)*2^s=2^(s+1)*(m*512)+st n s*2^s:=(by rw[p1];grind);have s2:(m*1024-st n s)*2^s=2^(s+1)*(m*512)+ -(st n s*2^s):=(by rw[p1];grind);have u1 : ∀M:Int,4503599627370496*511*2^(s+1)<=M->f+((s+1:Nat):Int)+1<=un M f:=by
    intro M h;have:(2:Int)^(60+(s+1))<=M:=by
     rw[AUZ];have:(2:Int)^60*2^(s+1)<=4503599627370496*511*2^(s+1):=AUL (by decide) (by omega);omega
    have:=XX this;unfold un;omega
   have AS2:(4503599627370496:Int)*2<=4503599627370496*2^(s+1):=(by omega);have gt1:m*1024>st n s:=(by omega);have gt2:2^(s+1)*(m*512)>n:=(by omega);refine⟨?_,by omega,by omega,λ_=> ?_,λh=>by omega⟩
   · rw[<-Iy (show 0<m*1024+st n s by omega) (f+s) s,show f+(s:Int)-s=f by omega,s1]
     exact(RD (g:=s+1) (by omega) (by have:=AUM hY0 (AUE hG);omega) ca.1.symm ca.2.symm (u1 _ (by omega))).symm
   · rw[<-Iy (show 0<m*1024-st n s by omega) (f+s) s,show f+(s:Int)-s=f by omega,s2,show 2^(s+1)*(m*512)-n=2^(s+1)*(m*512)+ -n by omega]
     have pos:0<2^(s+1)*(m*512)+ -(st n s*2^s):=(by rw[<-s2];exact AU3 (by omega) hG);exact(RD (g:=s+1) (by omega) pos cn.1.symm cn.2.symm (u1 _ (by omega))).symm
def fsF (a b:Int):Int :=
 if fs a=fs b then Jq (fs a) (Rd (pm a*2^(pe a-min (pe a) (pe b)).toNat+pm b*2^(pe b-min (pe a) (pe b)).toNat) (min (pe a) (pe b)))
 else if pm a*2^(pe a-min (pe a) (pe b)).toNat=pm b*2^(pe b-min (pe a) (pe b)).toNat then 0
 else if pm a*2^(pe a-min (pe a) (pe b)).toNat>pm b*2^(pe b-min (pe a) (pe b)).toNat then Jq (fs a) (Rd (pm a*2^(pe a-min (pe a) (pe b)).toNat-pm b*2^(pe b-min (pe a) (pe b)).toNat) (min (pe a) (pe b)))
 else Jq (fs b) (Rd (pm b*2^(pe b-min (pe a) (pe b)).toNat-pm a*2^(pe a-min (pe a) (pe b)).toNat) (min (pe a) (pe b)))
theorem AGb (a b:Int):fsF a b=fsF b a:=by
 unfold fsF;rw[show min (pe b) (pe a)=min (pe a) (pe b) by omega];generalize pm a*2^(pe a-min (pe a) (pe b)).toNat=X;generalize pm b*2^(pe b-min (pe a) (pe b)).toNat=Y;by_cases h:fs a=fs b
 · rw[if_pos h,if_pos h.symm,h,AVr]
 · have h' : ¬fs b=fs a:=λk=>h k.symm
   rw[if_neg h,if_neg h'];rcases AV3 X Y with h1 | h1 | h1
   · rw[if_neg (show¬X=Y by omega),if_neg (show¬X>Y by omega),if_neg (show¬Y=X by omega),if_pos (show Y>X from h1)]
   · rw[if_pos h1,if_pos h1.symm]
   · rw[if_neg (show¬X=Y by omega),if_pos (show X>Y from h1),if_neg (show¬Y=X by omega),if_neg (show¬Y>X by omega)]
def QM (a b:Int):Int:=if fk a=4\/fk b=4 then gB else if fk a=3/\fk b=3/\a≠b then gB else if fk a=3 then a else if fk b=3 then b else fsF a b
def fl (b:Int):Int:=if fk b=4 then gB else(b+9223372036854775808)%18446744073709551616
def cl (b:Int):Int:=if fk b=4 then gB else b
theorem AIc (b:Int):U (fl b):=by unfold fl gB U;split<;>omega
theorem Lc {x:Int} (h0:0<=x) (h1:x<9223372036854775808) (neg:Bool):U (Jq neg x)/\fs (Jq neg x)=neg/\fx (Jq neg x)=x/4503599627370496/\fr (Jq neg x)=x%4503599627370496:=by
 unfold Jq U fs fx fr;cases neg
 · simp only[AVI,if_false]
   exact⟨by omega,decide_eq_false (by omega),by omega,by first | trivial | omega⟩
 · simp only[if_true]
   exact⟨by omega,decide_eq_true (by omega),by omega,by omega⟩
theorem APg (a b:Int):U (fsF a b):=by
 have key : ∀(n:Bool) (m e:Int),U (Jq n (Rd m e)):=λn m e=>(Lc (N5 m e).1 (by have:=(N5 m e).2;unfold YC at this;omega) n).1
 unfold fsF;split
 · exact key ..
 · split
   · unfold U;omega
   · split
     · exact key ..
     · exact key ..
theorem Hl {a b:Int} (ha:U a) (hb:U b):U (QM a b):=by
 have:U gB:=by unfold U gB;omega
 unfold QM;split
 · exact this
 · split
   · exact this
   · split
     · exact ha
     · split
       · exact hb
       · exact APg a b
def wW (a b:Int):Int:=QM a (fl b)
def NU (a b:Int):Int:=if fk a=4\/fk b=4\/(fk a=3/\fk b=0)\/(fk a=0/\fk b=3) then gB else if fk a=3\/fk b=3 then Jq (fs a !=fs b) YC else Jq (fs a !=fs b) (Rd (pm a*pm b) (pe a+pe b))
theorem r8 (n:Bool) (m e:Int):U (Jq n (Rd m e)):=(Lc (N5 m e).1 (by have:=(N5 m e).2;unfold YC at this;omega) n).1
theorem kE (n:Bool):U (Jq n YC):=(Lc (x:=YC) (by decide) (by decide) n).1
theorem cu:U gB:=by unfold U gB;omega
theorem Da (a b:Int):U (NU a b):=by
 unfold NU;split
 · exact cu
 · split
   · exact kE _
   · exact r8 ..
def qd (m e n f:Int):Int :=
 if m*2^(63-bl m).toNat*18446744073709551616%(n*2^(64-bl n).toNat)=0 then Rd (m*2^(63-bl m).toNat*18446744073709551616/(n*2^(64-bl n).toNat)) (e-f+bl m-bl n-63)
 else Rd (2*(m*2^(63-bl m).toNat*18446744073709551616/(n*2^(64-bl n).toNat))+1) (e-f+bl m-bl n-64)
theorem wZ (m e n f:Int):0<=qd m e n f/\qd m e n f<=YC:=by unfold qd;split<;>exact N5 ..
def fdiv (a b:Int):Int:=if fk a=4\/fk b=4\/(fk a=3/\fk b=3)\/(fk a=0/\fk b=0) then gB else if fk a=3\/fk b=0 then Jq (fs a !=fs b) YC else if fk a=0\/fk b=3 then Jq (fs a !=fs b) 0 else Jq (fs a !=fs b) (qd (pm a) (pe a) (pm b) (pe b))
theorem XY (a b:Int):U (fdiv a b):=by
 unfold fdiv;split
 · exact cu
 · split
   · exact kE _
   · split
     · exact(Lc (x:=0) (by decide) (by decide) _).1
     · exact(Lc (wZ ..).1 (by have:=(wZ (pm a) (pe a) (pm b) (pe b)).2;unfold YC at this;omega) _).1
theorem AId {q E:Int} (h:4611686018427387904<=q):Rd (q/2*2+1) E=Rd (2*q+1) (E-1):=by
 rw[<-Iy (show 0<q/2*2+1 by omega) E 1,AVh,show E-((1:Nat):Int)=E-1 from rfl];refine RD (g:=2) (by omega) (by omega) (by omega) (by omega) ?_;have:=XX (x:=(q/2*2+1)*2) (n:=55) (by omega);unfold un;omega
theorem AIe {x:Int} (h:U x):Go.bits .and .u64 x 9223372036854775808=x/9223372036854775808*9223372036854775808:=by
 obtain⟨h0,h1⟩:=h;obtain⟨a,rfl⟩:=AUP h0;have e:=AIf a (2^63) (by omega) (by decide);rw[show(9223372036854775808:Int)=((2^63:Nat):Int) from rfl,e];rcases AUq a (2^63) with h2 | h2
 · have:a &&& 2^63=0:=by
    refine AWw λi=> ?_
    rw[Nat.testBit_and,AWV,Nat.zero_testBit];by_cases hi:63=i
    · subst hi
      rw[AWe h2];simp
    · simp[hi]
   rw[this];omega
 · obtain⟨b,rfl⟩ : ∃b,a=b+2^63:=⟨a-2^63,by omega⟩
   have e2:=AW3 (show b<2^63 by omega) 1;rw[AXQ] at e2;have:(b+2^63) &&& 2^63=2^63:=by
    rw[AWo,e2];refine AWw λi=> ?_
    rw[Nat.testBit_and,AWj,AWV];by_cases hi:63=i<;>simp[hi]
   rw[this];omega
theorem ALO {x:Int} (h0:0<=x) (h1:x<9223372036854775808):Go.bits .or .u64 x 9223372036854775808=x+9223372036854775808:=by
 rw[or_comm _ _ h0 (by omega) (by omega) (by omega),Fx 63 _ _ (by omega) (by omega) (by omega) h0 (by omega) (by omega)];omega
theorem sA (a:Nat) (h:a<2^63):a ^^^ 2^63=a+2^63:=by
 have e:=AW3 h 1;rw[AXQ] at e;rw[AWo,e];refine AWw λi=> ?_
 rw[Nat.testBit_xor,AWj,AWV];by_cases hi:63=i
 · subst hi
   rw[AWe h];simp
 · simp[hi]
theorem AIg {x:Int} (h:U x):Go.bits .xor .u64 x 9223372036854775808=(x+9223372036854775808)%18446744073709551616:=by
 obtain⟨h0,h1⟩:=h;obtain⟨a,rfl⟩:=AUP h0;have ha:a<2^64:=by omega
 have e1:Go.bits .xor .u64 (a:Int) 9223372036854775808=IntKind.u64.wrap ((a ^^^ 2^63:Nat):Int):=by
  rw[show(9223372036854775808:Int)=((2^63:Nat):Int) from rfl];simp only[Go.bits,BitVec.ofInt_natCast,BitVec.toNat_xor,BitVec.toNat_ofNat];rw[show IntKind.bits .u64=64 from rfl,AWr ha,AWr (show 2^63<2^64 by decide)]
 rw[e1,wu];rcases AUq a (2^63) with h2 | h2
 · rw[sA a h2]
   omega
 · obtain⟨b,rfl⟩ : ∃b,a=b+2^63:=⟨a-2^63,by omega⟩
   rw[<-sA b (by omega),Nat.xor_assoc,Nat.xor_self,Nat.xor_zero,sA b (by omega)];omega
theorem Ld {b:Int} (h:U b):DX.f b=some (fx b):=by
 unfold U at h;unfold DX.f fx;rw[APh _ (by omega) (by omega),AG (by omega) (by omega)]
theorem CZ {b:Int} (h:U b):BM.f b=some (fk b):=by
 unfold BM.f;rw[Ld h,ACi b h.1 h.2];show(if fx b=2047 then(if fr b=0 then some 3 else some 4) else if fx b=0 then(if fr b=0 then some 0 else some 1) else some 2)=some (fk b);unfold fk;split
 · split<;>rfl
 · split
   · split<;>rfl
   · rfl
theorem D3 {b:Int} (h:U b):Ci.f b=some (fs b):=by
 unfold Ci.f;rw[AIe h];unfold U at h;unfold fs
 congr 1
 by_cases hb:b>=9223372036854775808
 · rw[decide_eq_true hb,bne_iff_ne];omega
 · rw[decide_eq_false hb,bne_eq_false_iff_eq];omega
theorem J8 {b:Int} (h:U b):Ev (λk=>BI.f k b) (if fx b=2047 then(false,0,0,false) else(fs b,pm b,pe b,true)):=by
 have hx:= @Iz b;have hr:= @IA b;have hk:=Oo b;have e52:Go.bits .and .u64 b 4503599627370495=fr b:=ACi b h.1 h.2;refine Ev.AP (CZ h) ?_;rw[e52];have key : ∀t:Bool,(t=true↔fx b=2047)->Ev (λk=>BI.j0 k b (fr b) (fk b) t) (if fx b=2047 then(false,0,0,false) else(fs b,pm b,pe b,true)):=by
  intro t ht;refine Ev.eqv (λk=>BI.j0.eq_1 ..) ?_;by_cases hc:fx b=2047
  · rw[if_pos hc]
    exact Ev.AK (ht.2 hc) (Ev.same rfl)
  · rw[if_neg hc]
    refine Ev.AM (λk=>hc (ht.1 k)) ?_;have hk2:fk b=2↔fx b≠0:=by
     unfold fk;rw[if_neg hc];by_cases h0:fx b=0
     · rw[if_pos h0]
       split<;>omega
     · rw[if_neg h0];omega
    unfold pm pe;by_cases h0:fx b=0
    · rw[if_pos h0,if_pos h0]
      exact Ev.AM (by omega) (Ev.AP (D3 h) (Ev.same rfl))
    · rw[if_neg h0,if_neg h0]
      refine Ev.AK (by omega) (Ev.AP (D3 h) (Ev.AP (Ld h) (Ev.same ?_)));rw[AG (by omega) (by omega),or_comm _ _ (by omega) (by omega) (by omega) (by omega),Fx 52 _ _ (by omega) (by omega) (by omega) (by omega) (by omega) (by omega),AVr]
 by_cases h3:fk b=3
 · exact Ev.AK h3 (key _ (by rw[h3];simp;omega))
 · refine Ev.AM h3 (key _ ?_)
   rw[beq_iff_eq];omega
theorem K4 {x:Int} (neg:Bool) (h0:0<=x) (h1:x<9223372036854775808):Db.f neg x=some (Jq neg x):=by
 unfold Db.f Jq;rw[ALO h0 h1];cases neg<;>rfl
theorem HG (neg:Bool):Ch.f neg=some (Jq neg YC):=by
 unfold Ch.f;rw[K4 neg (by decide) (by decide)];rfl
theorem FQ:CG.f=some gB:=rfl
theorem WT {b:Int} (h:U b):FN.f b=some (cl b):=by
 unfold FN.f cl;rw[CZ h];show(if fk b=4 then _ else _)=_;split<;>rfl
theorem Yv {b:Int} (h:U b):Gd.f b=some (fl b):=by
 unfold Gd.f fl;rw[CZ h,AIg h];show(if fk b=4 then _ else _)=_;split<;>rfl
theorem AAg {m u e:Int} (h0:0<m) (h1:m<18446744073709551616) (h:64<=u-e):m*2^(e-u).toNat%2^(u-e).toNat≠0:=by
 have:=Ar (a:=64) (b:=(u-e).toNat) (by omega);rw[show(e-u).toNat=0 by omega,AUW,AUk,AUp (by omega) (by omega)];omega
theorem AIh {m e:Int} (hm:U m) (he : -5000<=e) (he':e<=5000):mx (wrap64 ((wrap64 (e+bl m))-53)) (-1074)=un m e:=by
 have h1:=Sn hm.2;have h2:=CI m;rw[AG (n:=e+bl m) (by omega) (by omega),AG (by omega) (by omega)];unfold mx un;generalize bl m=n at *;split<;>omega
theorem WU {w u:Int} (neg:Bool) (h0:0<=w) (h1:w<9007199254740992) (hu0 : -1074<=u) (wj:u<=971) (hw:u= -1074\/4503599627370496<=w) :
 Ev (λk=>BO.j2 k neg w u) (Jq neg ((u+1074)*4503599627370496+w),true):=by
 refine Ev.eqv (λk=>BO.j2.eq_1 ..) ?_;by_cases h:w<4503599627370496
 · refine Ev.AK h (Ev.AP (K4 neg h0 (by omega)) (Ev.same ?_))
   rw[show(u+1074)*4503599627370496+w=w by omega]
 · refine Ev.AM h ?_
   rw[ACi w h0 (by omega),AG (by omega) (by omega),DC (n:=u+1075) (by omega) (by omega),DC (by omega) (by omega),Fx 52 _ _ (by omega) (by omega) (by omega) (by omega) (by omega) (by omega)];rw[show(u+1075)*4503599627370496+w%4503599627370496=(u+1074)*4503599627370496+w by omega];exact Ev.AP (K4 neg (by omega) (by omega)) (Ev.same rfl)
theorem K5 {m e:Int} (neg:Bool) (hm:U m) (he0 : -9223372036854775808<=e) (he1:e<=9223372036854775807):Ev (λk=>BO.f k neg m e) (Mk neg m e):=by
 obtain⟨hm0,hm1⟩:=id hm;have hu:un m e=max (bl m+e-53) (-1074):=rfl;by_cases hz:m=0
 · refine Ev.AK hz (Ev.AP (K4 neg (by omega) (by omega)) (Ev.same ?_))
   rw[hz,Yw]
 · have hp:0<m:=by omega
   have b1:=C9 hp;have b2:=Sn hm1;refine Ev.AM hz ?_;by_cases h1:e>2000
   · refine Ev.AK h1 (Ev.eqv (λk=>BO.j0.eq_1 ..) (Ev.AK rfl (Ev.same ?_)))
     rw[So neg hz (.inl (by omega))]
   · refine Ev.AM h1 (Ev.eqv (λk=>BO.j0.eq_1 ..) ?_)
     by_cases h2:e < -2000
     · refine Ev.AK (decide_eq_true h2) (Ev.same ?_)
       rw[So neg hz (.inr (AAg hp hm1 (by omega)))]
     · refine Ev.AM (by rw[decide_eq_false h2];decide) (Ev.bind (Gg hm) ?_)
       have hq:=ADg (e:=e) hp;rw[AIh hm (by omega) (by omega),AG (by omega) (by omega)];by_cases h3:un m e>971
       · refine Ev.AK h3 (Ev.eqv (λk=>BO.j1.eq_1 ..) (Ev.AK rfl (Ev.same ?_)))
         rw[So neg hz (.inl h3)]
       · refine Ev.AM h3 (Ev.eqv (λk=>BO.j1.eq_1 ..) ?_)
         by_cases h4:un m e-e>=64
         · refine Ev.AK (decide_eq_true h4) (Ev.same ?_)
           rw[So neg hz (.inr (AAg hp hm1 (by omega)))]
         · refine Ev.AM (by rw[decide_eq_false h4];decide) ?_
           by_cases h5:un m e-e>0
           · refine Ev.AK h5 (Ev.AK (by omega) ?_)
             obtain⟨s,hs⟩ : ∃s:Nat,un m e-e=s:=⟨(un m e-e).toNat,by omega⟩;have hps:=pow_pos s;have hd:=AUV m (2^s);have hr:=AUe m (show(2:Int)^s≠0 by omega);have zL:0<=m/2^s:=AUX hm0 (by omega);have hd1:0<=m/2^s*2^s:=AUM zL (by omega);have e0:m*2^(e-un m e).toNat=m:=(by rw[show(e-un m e).toNat=0 by omega,AUW,AUk]);rw[AUQ] at hd;rw[e0] at hq;rw[hs] at hq ⊢;rw[WV _ _ (by omega),M7 _ _ (by omega)];rw[AUD] at hq ⊢;rw[AUp hd1 (by omega)];by_cases h6:m/2^s*2^s=m
             · refine Ev.AK h6 ((WU neg hq.1 hq.2.1 (by omega) (by omega) hq.2.2).WS ?_)
               have h7:m%2^s=0:=(by omega);rw[Tv neg hz (by omega) (by rw[e0,hs,AUD];exact h7),Tw hp (by omega) (by rw[e0,hs,AUD];exact h7),e0,hs,AUD]
             · refine Ev.AM h6 (Ev.same ?_)
               rw[So neg hz (.inr (by rw[e0,hs,AUD];omega))]
           · refine Ev.AM h5 ?_
             rw[AG (by omega) (by omega)];refine Ev.AK (by omega) ?_;obtain⟨t,ht⟩ : ∃t:Nat,-(un m e-e)=t:=⟨(-(un m e-e)).toNat,by omega⟩;have e1:(e-un m e).toNat=t:=(by omega);have e2:(un m e-e).toNat=0:=(by omega);rw[e1,e2,AUW,AU9] at hq;rw[ht,M7 _ _ (by omega),AUD,AUp hq.1 (by omega)];refine(WU neg hq.1 hq.2.1 (by omega) (by omega) hq.2.2).WS ?_;rw[Tv neg hz (by omega) (by rw[e2,AUW,AVs]),Tw hp (by omega) (by rw[e2,AUW,AVs]),e1,e2,AUW,AU9]
theorem Pm {b:Int} (h:U b):EG.f b=some (fx b):=Ld h
theorem Yx {b:Int} (h:U b):F4.f b=some (fr b):=by
 unfold F4.f;rw[ACi b h.1 h.2];rfl
theorem CO {b:Int} (h:U b):Bk.f b=some (fk b):=by
 have hx:= @Iz b;have hr:= @IA b;unfold Bk.f;rw[Pm h,Yx h];show(if fx b=2047 then(if fr b=0 then some 3 else some 4) else if fx b>0 then some 2 else if fr b>0 then some 1 else some 0)=some (fk b);unfold fk;by_cases h1:fx b=2047
 · rw[if_pos h1,if_pos h1]
   split<;>rfl
 · rw[if_neg h1,if_neg h1]
   by_cases h2:fx b=0
   · rw[if_neg (show¬fx b>0 by omega),if_pos h2]
     by_cases h3:fr b=0
     · rw[if_neg (show¬fr b>0 by omega),if_pos h3]
     · rw[if_pos (show fr b>0 by omega),if_neg h3]
   · rw[if_pos (show fx b>0 by omega),if_neg h2]
theorem Cs {b:Int} (h:U b):CX.f b=some (fs b):=by
 unfold U at h;unfold CX.f fs
 congr 1
 by_cases hb:b>=9223372036854775808
 · rw[decide_eq_true hb,beq_iff_eq];omega
 · rw[decide_eq_false hb,beq_eq_false_iff_ne];omega
theorem Tx {b:Int} (h:U b):FO.f b=some (decide (fx b≠2047)):=by
 have hx:= @Iz b;unfold FO.f;rw[Pm h];show some (decide (fx b<2047))=_
 congr 1
 by_cases h1:fx b=2047
 · rw[decide_eq_false (by omega),decide_eq_false (by omega)]
 · rw[decide_eq_true (by omega),decide_eq_true (by omega)]
theorem EP {b:Int} (h:U b):CV.f b=some (pm b,pe b):=by
 have hx:= @Iz b;have hr:= @IA b;unfold CV.f;rw[Pm h,Yx h];show(if fx b=0 then some (fr b,-1074) else some (IntKind.u64.wrap (fr b+4503599627370496),wrap64 (fx b-1075)))=_;unfold pm pe;split
 · rfl
 · rw[DC (by omega) (by omega),AG (by omega) (by omega)]
theorem EZ {x:Int} (neg:Bool) (h0:0<=x) (h1:x<9223372036854775808):CL.f neg x=some (Jq neg x):=by
 unfold CL.f Jq;rw[DC (by omega) (by omega)];cases neg<;>rfl
theorem HH (neg:Bool):Dg.f neg=some (Jq neg YC):=by
 unfold Dg.f;rw[EZ neg (by decide) (by decide)];rfl
theorem HI:DY.f=some gB:=rfl
theorem WW {b:Int} (h:U b):Ge.f b=some (cl b):=by
 unfold Ge.f cl;rw[CO h];show(if fk b=4 then _ else _)=_;split<;>rfl
theorem Yy {b:Int} (h:U b):IL.f b=some (fl b):=by
 unfold IL.f fl;rw[CO h,wu];show(if fk b=4 then _ else _)=_;split<;>rfl
theorem nN (neg:Bool) (n:Nat) : ∀m e:Int,(e+1074).toNat<=n->0<m->m<9007199254740992-> -1074<=e->e<=3000->Ev (λk=>Aj.l1 k neg m e) (Mk neg m e):=by
 have fin : ∀m e:Int,0<m->m<9007199254740992-> -1074<=e->e<=3000->(e= -1074\/4503599627370496<=m)->Ev (λk=>Aj.j4 k neg m e) (Mk neg m e):=by
  intro m e h0 h1 h2 h3 hw;have hu:un m e=e:=by
   rcases AU1 m 4503599627370496 with h | h
   · have:=BF (x:=m) (n:=52) h
     unfold un;omega
   · rw[AGc (n:=52) h h1]
     omega
  refine Ev.step (λk=>Aj.j4.eq_2 ..) ?_;have e0:m*2^(e-un m e).toNat%2^(un m e-e).toNat=0:=by rw[hu,show(e-e).toNat=0 by omega,AUW,AVs]
  by_cases h:m<4503599627370496
  · refine Ev.AK h (Ev.AP (EZ neg (by omega) (by omega)) (Ev.same ?_))
    rw[Tv neg (by omega) (by omega) e0,(iB h0 (by omega) h2 (by omega) hw).2.2.2];rw[show(e+1074)*4503599627370496+m=m by omega]
  · refine Ev.AM h ?_
    by_cases h4:e>971
    · refine Ev.AK h4 (Ev.same ?_)
      rw[So neg (by omega) (.inl (by omega))]
    · refine Ev.AM h4 ?_
      rw[AG (by omega) (by omega),DC (n:=e+1075) (by omega) (by omega),DC (n:=(e+1075)*4503599627370496) (by omega) (by omega),DC (n:=(e+1075)*4503599627370496+m) (by omega) (by omega),DC (by omega) (by omega)];refine Ev.AP (EZ neg (by omega) (by omega)) (Ev.same ?_);rw[Tv neg (by omega) (by omega) e0,(iB h0 (by omega) h2 (by omega) hw).2.2.2];rw[show(e+1075)*4503599627370496+m-4503599627370496=(e+1074)*4503599627370496+m by omega]
 induction n with
 | zero =>
   intro m e hn h0 h1 h2 h3;refine Ev.step (λk=>Aj.l1.eq_2 ..) ?_;by_cases h:m<4503599627370496
   · exact Ev.AK h (Ev.AM (by omega) (fin m e h0 h1 h2 h3 (.inl (by omega))))
   · exact Ev.AM h (fin m e h0 h1 h2 h3 (.inr (by omega)))
 | succ n ih =>
   intro m e hn h0 h1 h2 h3;refine Ev.step (λk=>Aj.l1.eq_2 ..) ?_;by_cases h:m<4503599627370496
   · refine Ev.AK h ?_
     by_cases h4:e> -1074
     · refine Ev.AK h4 ?_
       rw[DC (by omega) (by omega),AG (by omega) (by omega),<-wk neg h0 e];exact ih (m*2) (e-1) (by omega) (by omega) (by omega) (by omega) (by omega)
     · exact Ev.AM h4 (fin m e h0 h1 h2 h3 (.inl (by omega)))
   · exact Ev.AM h (fin m e h0 h1 h2 h3 (.inr (by omega)))
theorem nO (neg:Bool) (n:Nat) : ∀m e:Int,m.toNat<=n->0<m->m<18446744073709551616-> -1200<=e->e+bl m<=2000->Ev (λk=>Aj.l0 k neg m e) (Mk neg m e):=by
 induction n with
 | zero=>intro m e hn h0;omega
 | succ n ih =>
   intro m e hn h0 h1 h2 h3;have hb:=C9 h0;refine Ev.step (λk=>Aj.l0.eq_2 ..) ?_;rw[AU5 (by omega),AU4 (by omega)];by_cases ho:m%2=0
   · refine Ev.AK ho ?_
     have uN:=Tz (x:=m) (s:=1) (by omega);rw[AVh] at uN;rw[DC (by omega) (by omega),AG (by omega) (by omega)];have hs:=wk neg (show 0<m/2 by omega) (e+1);rw[show m/2*2=m by omega,show e+1-1=e by omega] at hs;rw[hs];exact ih (m/2) (e+1) (by omega) (by omega) (by omega) (by omega) (by omega)
   · refine Ev.AM ho ?_
     have hu:un m e=max (bl m+e-53) (-1074):=rfl;have odd:un m e>e->Mk neg m e=(0,false):=by
      intro h;refine So neg (by omega) (.inr ?_);obtain⟨j,hj⟩ : ∃j:Nat,(un m e-e).toNat=j+1:=⟨(un m e-e).toNat-1,by omega⟩;rw[show(e-un m e).toNat=0 by omega,hj,AUW,AUk,AUY,AUQ,IM _ (by omega)];have:=AUe (m/2) (show(2:Int)^j≠0 by have:=pow_pos j;omega);omega
     by_cases h4:m>=9007199254740992
     · refine Ev.AK h4 (Ev.step (λk=>Aj.j2.eq_2 ..) (Ev.AK rfl (Ev.same ?_)))
       have:=XX (x:=m) (n:=53) (by omega);rw[odd (by omega)]
     · refine Ev.AM h4 (Ev.step (λk=>Aj.j2.eq_2 ..) ?_)
       by_cases h5:e < -1074
       · refine Ev.AK (decide_eq_true h5) (Ev.same ?_)
         rw[odd (by omega)]
       · refine Ev.AM (by rw[decide_eq_false h5];decide) ?_
         exact nN neg (e+1074).toNat m e (AUN _) h0 (by omega) (by omega) (by omega)
theorem sB {m e:Int} (neg:Bool) (hm:U m):Ev (λk=>Aj.f k neg m e) (Mk neg m e):=by
 obtain⟨hm0,hm1⟩:=id hm;have hu:un m e=max (bl m+e-53) (-1074):=rfl;by_cases hz:m=0
 · refine Ev.AK hz (Ev.AP (EZ neg (by omega) (by omega)) (Ev.same ?_))
   rw[hz,Yw]
 · have hp:0<m:=by omega
   have b1:=C9 hp;have b2:=Sn hm1;refine Ev.AM hz ?_;by_cases h1:e < -1200
   · refine Ev.AK h1 (Ev.step (λk=>Aj.j0.eq_2 ..) (Ev.AK rfl (Ev.same ?_)))
     rw[So neg hz (.inr (AAg hp hm1 (by omega)))]
   · refine Ev.AM h1 (Ev.step (λk=>Aj.j0.eq_2 ..) ?_)
     by_cases h2:e>1200
     · refine Ev.AK (decide_eq_true h2) (Ev.same ?_)
       rw[So neg hz (.inl (by omega))]
     · refine Ev.AM (by rw[decide_eq_false h2];decide) ?_
       exact nO neg m.toNat m e (AUN _) hp hm1 (by omega) (by omega)
theorem Pn {w u:Int} (neg:Bool) (h0:0<=w) (h1:w<=9007199254740992) (hu0 : -1074<=u) (wj:u<=971) (hw:u= -1074\/4503599627370496<=w) :
 Ev (λk=>Cr.f k neg w u) (Jq neg ((u+1074)*4503599627370496+w)):=by
 refine Ev.bind (K5 neg (m:=w) (e:=u) (by unfold U;omega) (by omega) (by omega)) ?_;have hk:=ACj (neg:=neg) h0 h1 hu0 wj hw;by_cases h:(Mk neg w u).2=true
 · rw[if_pos h] at hk
   exact Ev.AK h (Ev.same (congrArg some hk))
 · rw[if_neg h] at hk
   exact Ev.AM h (Ev.AP (HG neg) (Ev.same (congrArg some hk)))
theorem Fe (neg:Bool):Ev (λk=>Cr.f k neg 0 0) (Jq neg 0):=by
 refine Ev.bind (K5 neg (m:=0) (e:=0) (by unfold U;omega) (by omega) (by omega)) ?_;rw[Yw];exact Ev.AK rfl (Ev.same rfl)
theorem WX {x:Int} (h0:0<=x) (h1:x<9223372036854775808) (half more:Bool):FM.f x half more=some (if half=true/\(more=true\/x%2=1) then x+1 else x):=by
 unfold FM.f;rw[ALP x h0 (by omega),DC (by omega) (by omega)];cases half
 · simp
 · cases more
   · simp only[AVI,if_true,if_false,false_or,true_and]
     split<;>rfl
   · simp
def ce (e:Int):Int:=mn (mx e (-1099511627776)) 1099511627776
theorem Yz (e:Int) : -1099511627776<=ce e/\ce e<=1099511627776:=by
 unfold ce mn mx;split<;>split<;>omega
theorem M8 {e:Int} (h0 : -1099511627776<=e) (h1:e<=1099511627776):ce e=e:=by
 unfold ce mn mx;split<;>split<;>omega
theorem wo {m e:Int} (hm:bl m<=1000000) (he : -1099511627776<=e) (he':e<=1099511627776):mx (wrap64 ((wrap64 (bl m+e))-53)) (-1074)=un m e:=by
 have h2:=CI m;rw[AG (n:=bl m+e) (by omega) (by omega),AG (by omega) (by omega)];unfold mx un;generalize bl m=n at *;split<;>omega
theorem ADh {G H r:Int} (hG:0<G) (hGH:G*H=9223372036854775808) (h0:0<=r) (h1:r<2*H) :
 (G*r/9223372036854775808==1)=decide (r>=H)/\(r>H->(G*r*2%18446744073709551616 !=0)=true)/\(r=H->(G*r*2%18446744073709551616 !=0)=false):=by
 have e1:G*(2*H)=18446744073709551616:=by rw[Int.mul_left_comm,hGH];rfl
 have b0:0<=G*r:=AUM (by omega) h0;have b1:G*r<18446744073709551616:=by rw[<-e1];exact AVo h1 hG
 rcases AV3 r H with h | h | h
 · have:G*r<9223372036854775808:=by rw[<-hGH];exact AVo h hG
   refine⟨?_,λk=>by omega,λk=>by omega⟩;rw[decide_eq_false (by omega),beq_eq_false_iff_ne];omega
 · subst h
   refine⟨?_,λk=>by omega,λ_=> ?_⟩
   · rw[decide_eq_true (by omega),beq_iff_eq]
     omega
   · rw[bne_eq_false_iff_eq]
     omega
 · have:9223372036854775808<G*r:=by rw[<-hGH];exact AVo h hG
   refine⟨?_,λ_=> ?_,λk=>by omega⟩
   · rw[decide_eq_true (by omega),beq_iff_eq]
     omega
   · rw[bne_iff_ne]
     omega
theorem AAh {m e:Int} (h:0<m) (hu:un m e<=971):Rd m e=(un m e+1074)*4503599627370496+ru m e (un m e):=by
 unfold Rd;rw[if_neg (by omega),if_neg (by omega)]
theorem sC {m e:Int} (h:0<m) (hu:un m e>971):Rd m e=YC:=by
 unfold Rd;rw[if_neg (by omega),if_pos hu]
theorem Cg {m e:Int} (neg:Bool) (hm:U m):Ev (λk=>BE.f k neg m e) (Jq neg (Rd m (ce e))):=by
 obtain⟨hm0,hm1⟩:=id hm;have hE:=Yz e;by_cases hz:m=0
 · refine Ev.AK hz (Ev.bind (Fe neg) (Ev.same ?_))
   rw[hz,Ve]
 · have hp:0<m:=by omega
   have b1:=C9 hp;have b2:=Sn hm1;refine Ev.AM hz (Ev.bind (Gg hm) ?_);have eE:mn (mx e (-1099511627776)) 1099511627776=ce e:=rfl;rw[eE];generalize ce e=E at *;rw[wo (by omega) (by omega) (by omega)];have hu:un m E=max (bl m+E-53) (-1074):=rfl;have hq:=ADg (e:=E) hp;have hr:=Y1 (e:=E) hp;by_cases h1:un m E>971
   · refine Ev.AK h1 (Ev.AP (HG neg) (Ev.same ?_))
     rw[sC hp h1]
   · refine Ev.AM h1 ?_
     rw[AG (n:=un m E-E) (by omega) (by omega),AAh hp (by omega)];by_cases h2:un m E-E<=0
     · refine Ev.AK h2 ?_
       rw[AG (by omega) (by omega)];refine Ev.AK (by omega) ?_;by_cases ht : -(un m E-E)<=64
       · have e0:ru m E (un m E)=m*2^(E-un m E).toNat:=by
          unfold ru;rw[show(un m E-E).toNat=0 by omega,MP]
         rw[show(un m E-E).toNat=0 by omega,AUW,AU9] at hq;rw[e0] at hr ⊢;rw[M7 _ _ (by omega),show(-(un m E-E)).toNat=(E-un m E).toNat by omega,AUp hq.1 (by omega)];exact Ev.bind (Pn neg hr.1 hr.2.1 (by omega) (by omega) hr.2.2) (Ev.same rfl)
       · exfalso
         omega
     · refine Ev.AM h2 ?_
       by_cases h3:un m E-E>64
       · refine Ev.AK h3 (Ev.bind (Fe neg) (Ev.same ?_))
         have hu2:un m E= -1074:=(by omega);have e0:ru m E (un m E)=0:=by
          unfold ru;rw[show(E-un m E).toNat=0 by omega,AUW,AUk];have:=Ar (a:=65) (b:=(un m E-E).toNat) (by omega);exact bJ hm0 (by omega)
         rw[e0,hu2];rfl
       · refine Ev.AM h3 ?_
         obtain⟨d,hd⟩ : ∃d:Nat,un m E-E=((d+1:Nat):Int):=⟨(un m E-E).toNat-1,by omega⟩;have APi:d+1<=64:=(by omega);have e0:ru m E (un m E)=Oq m (d+1):=by
          unfold ru;rw[show(E-un m E).toNat=0 by omega,AUW,AUk,hd,AUD]
         rw[show(E-un m E).toNat=0 by omega,AUW,AUk,hd,AUD] at hq;rw[e0] at hr ⊢;rw[hd,AG (by omega) (by omega),AG (n:=((d+1:Nat):Int)-1) (by omega) (by omega)];refine Ev.AK (by omega) (Ev.AK (by omega) ?_);have hH:(2:Int)^(d+1)=2*2^d:=(by rw[AUY,AUQ]);have hGH:(2:Int)^(64-(d+1))*2^d=9223372036854775808:=(by rw[<-AUZ,show 64-(d+1)+d=63 by omega];rfl);rw[WV _ _ (by omega),M7 _ _ (by omega),show(((d+1:Nat):Int)-1).toNat=d by omega,show(64-((d+1:Nat):Int)).toNat=64-(d+1) by omega,sD m APi,wu];have e1:m/2/2^d=m/2^(d+1):=(by rw[AUt (by omega),<-hH]);rw[e1];have r0:=AUe m (show(2:Int)^(d+1)≠0 by have:=pow_pos (d+1);omega);have r1:=AUd m (pow_pos (d+1));have hw:=ADh (G:=2^(64-(d+1))) (H:=2^d) (r:=m%2^(d+1)) (pow_pos _) hGH r0 (by omega);rw[hw.1];have he:=WX (x:=m/2^(d+1)) hq.1 (by omega) (decide (m%2^(d+1)>=2^d)) (2^(64-(d+1))*(m%2^(d+1))*2%18446744073709551616 !=0);have hv:(if decide (m%2^(d+1)>=2^d)=true/\((2^(64-(d+1))*(m%2^(d+1))*2%18446744073709551616 !=0)=true\/m/2^(d+1)%2=1) then m/2^(d+1)+1 else m/2^(d+1))=Oq m (d+1):=by
          unfold Oq;rcases AV3 (m%2^(d+1)) (2^d) with h | h | h
          · rw[if_neg (by simp;omega),if_neg (by omega)]
          · rw[hw.2.2 h]
            by_cases ho:m/2^(d+1)%2=1
            · rw[if_pos ⟨decide_eq_true (by omega), .inr ho⟩,if_pos (.inr ⟨by omega,ho⟩)]
            · rw[if_neg (by simp[ho]),if_neg (by omega)]
          · rw[hw.2.1 h,if_pos ⟨decide_eq_true (by omega), .inl rfl⟩,if_pos (.inl (by omega))]
         rw[hv] at he;refine Ev.AP he ?_;exact Ev.bind (Pn neg hr.1 hr.2.1 (by omega) (by omega) hr.2.2) (Ev.same rfl)
theorem Le {n:Int} (h0 : -9223372036854775808<=n) (h1:n<=9223372036854775807):Ev (λk=>Cx.f k n) (Jq (decide (n<0)) (Rd (if n<0 then -n else n) 0)):=by
 by_cases h:n<0
 · rw[decide_eq_true h,if_pos h]
   refine Ev.AK h ?_;have e:IntKind.u64.wrap (-(IntKind.u64.wrap n))= -n:=(by rw[wu,wu];omega);rw[e];refine Ev.bind (Cg (e:=0) true (by unfold U;omega)) (Ev.same ?_);rw[M8 (by omega) (by omega)]
 · rw[decide_eq_false h,if_neg h]
   refine Ev.AM h ?_;rw[DC (by omega) (by omega)];refine Ev.bind (Cg (e:=0) false (by unfold U;omega)) (Ev.same ?_);rw[M8 (by omega) (by omega)]
def qv (N D:Int):Int:=if N%D=0 then 2*(N/D) else 2*(N/D)+1
theorem ACk (N D:Int):2*(N/D)<=qv N D/\qv N D<=2*(N/D)+1:=by unfold qv;split<;>omega
theorem AIi {N D c:Int} (hD:0<D) (hq:9007199254740992<=N/D):Rd (qv N D) c=Rd (qv (N*2) D) (c-1):=by
 have hs:0<qv N D:=by have:=ACk N D;omega
 rw[<-Iy hs c 1,AVh,show c-((1:Nat):Int)=c-1 from rfl];have d1:=AUV N D;have d2:=AUe N (show D≠0 by omega);have d3:=AUd N hD;have key:N*2/D=2*(N/D)+(N%D*2)/D/\(N*2)%D=(N%D*2)%D:=by
  have e:N*2=N%D*2+D*(2*(N/D)):=by
   have:D*(2*(N/D))=2*(D*(N/D)):=(by rw[<-AUl,AUQ D 2,AUl]);omega
  constructor
  · rw[e,AUy _ _ (by omega)];omega
  · rw[e,AU6]
 have r1:(N%D*2)/D=0/\(N%D*2)%D=N%D*2\/(N%D*2)/D=1/\(N%D*2)%D=N%D*2-D/\N%D≠0:=by
  rcases AU1 (N%D*2) D with h | h
  · exact .inl ⟨AUo (by omega) h,AUp (by omega) h⟩
  · have e2:N%D*2=(N%D*2-D)+D*1:=by omega
    refine .inr ⟨?_, ?_,by omega⟩
    · rw[e2,AUy _ _ (by omega),AUo (by omega) (by omega)];rfl
    · rw[e2,AU6,AUp (by omega) (by omega)];omega
 have hX:18014398509481984<=qv N D:=by have:=ACk N D;omega
 have hY:0<qv (N*2) D:=by have:=ACk (N*2) D;rw[key.1] at this;rcases r1 with h | h<;>omega
 have c1:qv N D*2/2^2=qv (N*2) D/2^2/\(qv N D*2%2^2=0↔qv (N*2) D%2^2=0):=by
  unfold qv;rw[key.1,key.2];rw[show((2:Int)^2)=4 from rfl];generalize N/D=q at *;generalize N%D=r at *;by_cases hr:r=0
  · subst hr
    rcases r1 with⟨k1,k2⟩ | ⟨k1,k2,k3⟩
    · rw[k1,k2,if_pos rfl,if_pos (by omega)];omega
    · exact absurd rfl k3
  · rw[if_neg hr]
    rcases r1 with⟨k1,k2⟩ | ⟨k1,k2,k3⟩
    · rw[k1,k2,if_neg (by omega)];omega
    · rw[k1,k2];split<;>omega
 refine RD (g:=2) (by omega) hY c1.1 c1.2 ?_;have:=XX (x:=qv N D*2) (n:=55) (by omega);unfold un;omega
theorem AGd (j:Nat) : ∀ {N D c:Int},0<D->9007199254740992<=N/D->Rd (qv N D) c=Rd (qv (N*2^j) D) (c-j):=by
 induction j with
 | zero=>intro N D c hD hq;rw[AUW,AUk,show c-((0:Nat):Int)=c by omega]
 | succ j ih =>
   intro N D c hD hq;have e:N*2^(j+1)=N*2*2^j:=(by rw[AUY,AUQ (2^j),AUl]);have d1:=AUV N D;have d2:=AUe N (show D≠0 by omega);have h2:9007199254740992<=N*2/D:=by
    have h3:N/D*D<=N:=(by rw[AUQ];omega);have h4:N/D<=N*2/D:=(AU8 hD).2 (by
     have:0<=N/D*D:=AUM (by omega) (by omega);omega)
    omega
   rw[e,AIi hD hq,ih hD h2]
   congr 1
   omega
def fq (N D:Int):Int :=
 if bl N-bl D < -1200 then 0 else if bl N-bl D>1100 then YC
 else Rd (qv (N*2^(max 0 (64-(bl N-bl D))).toNat) D) (-(max 0 (64-(bl N-bl D)))-1)
theorem AGe {N:Int} (h:0<N) : ∃n:Nat,bl N=n+1/\2^n<=N/\N<2^(n+1):=by
 have h1:=C9 h;refine⟨(bl N-1).toNat,by omega, ?_, ?_⟩
 · exact Sp h
 · have:=F1 N
   have e:((bl N-1).toNat+1)=(bl N).toNat:=by omega
   rw[e];exact this
theorem Y2 {N D:Int} {up g:Nat} (hN:0<N) (hD:0<D) (h:bl D+g+1<=bl N+up):2^g<=N*2^up/D:=by
 obtain⟨n,n1,n2,n3⟩:=AGe hN;obtain⟨d,d1,d2,d3⟩:=AGe hD;refine(AU8 hD).2 ?_;have k1:(2:Int)^g*D<=2^g*2^(d+1):=AUb (by omega) (by have:=pow_pos g;omega);have k2:(2:Int)^n*2^up<=N*2^up:=AUL n2 (by have:=pow_pos up;omega);rw[<-AUZ] at k1 k2;have k3:=Ar (a:=g+(d+1)) (b:=n+up) (by omega);omega
theorem ALQ {N D:Int} (hN:0<N) (hD:0<D) (h0 : -1200<=bl N-bl D) (h1:bl N-bl D<=1200) :
 fq N D=Rd (qv (N*2^(max (70-(bl N-bl D)) 0).toNat) D) (-(max (70-(bl N-bl D)) 0)-1):=by
 unfold fq;rw[if_neg (by omega)];by_cases h:bl N-bl D>1100
 · rw[if_pos h,show max (70-(bl N-bl D)) 0=0 by omega,show(0:Int).toNat=0 from rfl,AUW,AUk]
   have q:=Y2 (up:=0) (g:=1099) hN hD (by omega);rw[AUW,AUk] at q;have k:=(ACk N D).1;have k2:(2:Int)^1099<=qv N D:=(by have:=pow_pos 1099;omega);have hb:=XX k2;have hp:0<qv N D:=(by have:=pow_pos 1099;omega);unfold Rd;rw[if_neg (by omega),if_pos (by unfold un;omega)]
 · rw[if_neg h]
   have q:=Y2 (up:=(max 0 (64-(bl N-bl D))).toNat) (g:=53) hN hD (by omega);generalize hu:(max 0 (64-(bl N-bl D))).toNat=up at *;rw[AGd ((max (70-(bl N-bl D)) 0).toNat-up) hD q,AUl,<-AUZ,show up+((max (70-(bl N-bl D)) 0).toNat-up)=(max (70-(bl N-bl D)) 0).toNat by omega]
   congr 1
   omega
theorem ALR {x:Int} (h:0<x) (i:Nat):x%2^i=0↔(i:Int)<=tz x:=by
 obtain⟨n,h1,h2,h3⟩:=Y3 h;have key : ∀j:Nat,j<=n->x%2^j=0:=by
  intro j;induction j with
  | zero=>intro _;rw[AUW,AVs]
  | succ j ih =>
    intro hj;rw[AUY,IM x (pow_pos j),h3 j (by omega),ih (by omega)];simp
 rw[h1];constructor
 · intro k
   rcases AUq n i with hlt | hge
   · exfalso
     have e:(2:Int)^i=2^n*(2*2^(i-n-1)):=by
      rw[<-Int.pow_succ',<-AUZ];congr 1;omega
     rw[e] at k;have h5:=IM x (D:=2*2^(i-n-1)) (pow_pos n);rw[k,key n (AUN _)] at h5;have h6:x/2^n%(2*2^(i-n-1))=0:=by
      have hp:=pow_pos n;have:(2:Int)^n*(x/2^n%(2*2^(i-n-1)))=0:=(by omega);rcases AW4.1 this with h7 | h7<;>omega
     have h7:=Int.emod_emod_of_dvd (x/2^n) (show(2:Int)∣2*2^(i-n-1) from⟨_,rfl⟩);rw[h6] at h7;omega
   · omega
 · intro k
   exact key i (by omega)
theorem APj {N e:Int} (hN:0<=N) (hb:bl N<=10000) (h0 : -1099511627777<=e) (h1:e<=1099511627776):Rd N (ce e)=Rd N e:=by
 have hE:=Yz e;rcases(show -1099511627776<=e\/e= -1099511627777 by omega) with h | h
 · rw[M8 h h1]
 · have:ce e= -1099511627776:=by rw[h];decide
   rw[Y4 hN (by omega),Y4 hN (by omega)]
theorem cv {l:List Int} (neg:Bool) (hl:Wl l) (hn:l.length<=150) {e:Int} (he0 : -1099511627777<=e) (he1:e<=1099511627776):Ev (λk=>EF.j0 k neg l e) (Jq neg (Rd (nv l) e)):=by
 have h0:=AS hl.1;have hb:=GG hl.1;refine Ev.step (λk=>EF.j0.eq_2 ..) (Ev.bind (Hj hl) ?_);have hbN:bl (nv l)<=10000:=by omega
 have hb0:=CI (nv l);by_cases h1:bl (nv l)<=64
 · refine Ev.AK h1 (Ev.bind (XZ hl) ?_)
   have hw:nv l<18446744073709551616:=by
    have h2:=F1 (nv l);have h3:=Ar (a:=(bl (nv l)).toNat) (b:=64) (by omega);have h4:(2:Int)^64=18446744073709551616:=rfl;omega
   rw[if_pos hw];refine Ev.bind (Cg neg (m:=nv l) (e:=e) ⟨h0,hw⟩) (Ev.same ?_);rw[APj h0 hbN he0 he1]
 · refine Ev.AM h1 ?_
   have S:=ox hl (n:=un (nv l) e-e) (by unfold un;omega);have B:=bK hl (i:=un (nv l) e-e-1) (by unfold un;omega);have T:=AAi hl;generalize nv l=N at *;have hp:0<N:=by
    rcases(show N=0\/0<N by omega) with h | h
    · rw[h,L8] at h1;omega
    · exact h
   have hu:un N e=max (bl N+e-53) (-1074):=rfl;have eU:mx (wrap64 ((wrap64 (bl N+e))-53)) (-1074)=un N e:=by
    rw[AG (n:=bl N+e) (by omega) (by omega),AG (n:=bl N+e-53) (by omega) (by omega),hu];unfold mx;split<;>omega
   rw[eU];by_cases h2:un N e>971
   · refine Ev.AK h2 (Ev.AP (HG neg) (Ev.same ?_))
     rw[sC hp h2]
   · refine Ev.AM h2 ?_
     rw[AG (n:=un N e-e) (by omega) (by omega),AG (n:=un N e-e-1) (by omega) (by omega)];have hq:=ADg (e:=e) hp;have hr:=Y1 (e:=e) hp;obtain⟨d,hd⟩ : ∃d:Nat,un N e-e=d+1:=⟨(un N e-e-1).toNat,by omega⟩;unfold ru at hr;rw[AAh hp (by omega)];unfold ru;rw[show(e-un N e).toNat=0 by omega,AUW,AUk,show(un N e-e).toNat=d+1 by omega] at hq hr ⊢;have d1:un N e-e-1=(d:Int):=(by omega);have d2:un N e-e=((d+1:Nat):Int):=(by omega);rw[d1] at B ⊢;rw[d2] at S ⊢;rw[AUD] at S;refine Ev.bind S ?_;have bq:bl (N/2^(d+1))<=53:=BF (n:=53) (Int.lt_of_lt_of_le hq.2.1 (by decide));have W:=XZ (l:=dg (N/2^(d+1))) (Av (by omega));rw[AR hq.1,if_pos (by omega)] at W;refine Ev.bind W (Ev.AP B (Ev.bind T ?_));refine Ev.AP (WX hq.1 (by omega) _ _) ?_;have hpd:=pow_pos d;have hm:=IM N (G:=2^d) (D:=2) hpd;have e2:(2:Int)^(d+1)=2^d*2:=AUY ..;have hz:N%2^d=0↔(d:Int)<=tz N:=ALR hp d;have hlt:=AUd N hpd;have hge:=AUe N (show(2:Int)^d≠0 by omega);have key:Oq N (d+1)=if bL N (d:Int)=true/\(decide (tz N<(d:Int))=true\/N/2^(d+1)%2=1) then N/2^(d+1)+1 else N/2^(d+1):=by
      unfold Oq bL;rw[AUD];rw[e2] at *;rw[hm];have Y5:N/2^d%2=0\/N/2^d%2=1:=(by omega);generalize N/(2^d*2)=q at *;generalize N%2^d=r at *;generalize tz N=t at *;generalize (2:Int)^d=G at *;rcases Y5 with Y5 | Y5
      · rw[Y5,if_neg (by omega),if_neg (by simp)]
      · rw[Y5]
        by_cases Yc:r=0
        · have:=hz.1 Yc
          by_cases ho:q%2=1
          · rw[if_pos (by right;omega),if_pos (by simp[ho])]
          · rw[if_neg (by omega),if_neg (by simp[ho];omega)]
        · have : ¬(d:Int)<=t:=λk=>Yc (hz.2 k)
          rw[if_pos (by left;omega),if_pos (by simp;omega)]
     rw[<-key];exact Ev.bind (Pn neg hr.1 hr.2.1 (ACl N e) (by omega) hr.2.2) (Ev.same rfl)
theorem wz {l:List Int} (neg:Bool) (hl:Wl l) (hn:l.length<=100) (e:Int) (more:Bool):Ev (λk=>EF.f k neg l e more) (Jq neg (if more then Rd (2*nv l+1) (ce e-1) else Rd (nv l) (ce e))):=by
 have hE:=Yz e;have eE:mn (mx e (-1099511627776)) 1099511627776=ce e:=rfl;cases more
 · refine Ev.AM (by decide) ?_
   rw[eE];exact Ev.WS (cv neg hl (by omega) (by omega) (by omega)) rfl
 · refine Ev.AK rfl ?_
   rw[eE];have h0:=AS hl.1;have hb:=GG hl.1;have S:=Vf hl (by omega) 1;rw[T3 (by omega) (by omega),show(1:Int).toNat=1 from rfl,AVh] at S;refine Ev.bind S ?_;generalize nv l=N at *;have b1:bl (N*2)<=6402:=by
    have:=Dt (x:=N) (y:=2) h0 (by omega);have:bl 2=2:=rfl;omega
   have lN:=AN (N*2);refine Ev.bind (Tu (x:=1) (by unfold U;omega)) ?_;have A:=bF (a:=dg (N*2)) (b:=dg 1) (Av (by omega)) (Av (by decide)) (by omega) (by decide);rw[AR (by omega),AR (by omega),show N*2+1=2*N+1 by omega] at A;refine Ev.bind A ?_;have b2:bl (2*N+1)<=6500:=by
    have a1:=F1 (N*2);have a2:=CI (N*2);have:bl (2*N+1)<=((bl (N*2)).toNat+1:Nat):=BF (by rw[AUY];omega);omega
   have l2:=AN (2*N+1);have J:=cv neg (l:=dg (2*N+1)) (Av (by omega)) (by omega) (e:=ce e-1) (by omega) (by omega);rw[AR (by omega)] at J;exact Ev.WS J rfl
theorem K6 {n:Int} (h:n<=65536):w7 n=n.toNat:=by
 rcases AU1 n 0 with h0 | h0
 · unfold w7 mn mx
   split<;>split<;>omega
 · exact T3 h0 h
theorem cw {w u:Int} (neg:Bool) (h0:0<=w) (h1:w<=9007199254740992) (hu0 : -1074<=u) (wj:u<=971) (hw:u= -1074\/4503599627370496<=w) :
 Ev (λk=>B6.j1 k neg u w) (Jq neg ((u+1074)*4503599627370496+w)):=by
 refine Ev.step (λk=>B6.j1.eq_2 ..) ?_;refine Ev.bind (sB neg (m:=w) (e:=u) (by unfold U;omega)) ?_;have hk:=ACj (neg:=neg) h0 h1 hu0 wj hw;by_cases h:(Mk neg w u).2=true
 · rw[if_pos h] at hk
   exact Ev.AK h (Ev.same (congrArg some hk))
 · rw[if_neg h] at hk
   exact Ev.AM h (Ev.AP (HH neg) (Ev.same (congrArg some hk)))
theorem kF {w:Int} (h0:0<w) (h1:w<18446744073709551616):dg w= [w]:=by
 rw[N6 h0,kG (by omega),AUp (by omega) h1]
theorem MQ {w u:Int} (neg:Bool) (h0:0<=w) (h1:w<=9007199254740992) (hu0 : -1074<=u) (wj:u<=971) (hw:u= -1074\/4503599627370496<=w) :
 Ev (λk=>B6.j0 k neg u (dg w)) (Jq neg ((u+1074)*4503599627370496+w)):=by
 refine Ev.step (λk=>B6.j0.eq_2 ..) ?_;rcases(show w=0\/0<w by omega) with rfl | h
 · rw[IZ]
   exact Ev.AM (by decide) (cw neg h0 h1 hu0 wj hw)
 · rw[kF h (by omega)]
   exact Ev.AK (by simp) (Ev.AK (by simp) (cw neg h0 h1 hu0 wj hw))
theorem Ns {x y:Int} :Gt x y>0↔y<x:=by unfold Gt;split<;>(try split)<;>omega
theorem KZ {x y:Int} :Gt x y=0↔x=y:=by unfold Gt;split<;>(try split)<;>omega
theorem Lf {l:List Int} (neg:Bool) (hl:Wl l) (hn:l.length<=900) {e:Int} (he0 : -2000000000000<=e) (he1:e<=2000000000000):Ev (λk=>B6.f k neg l e) (Jq neg (Rd (nv l) e)):=by
 have h0:=AS hl.1;have hb:=GG hl.1;refine Ev.bind (B7 hl) ?_;generalize nv l=N at *;have hb0:=CI N;have hbN:bl N<=57600:=by omega
 clear hb;have wN:Wl (dg N):=Av (by omega);have lN:=AN N;by_cases hz:N=0
 · rw[hz]
   refine Ev.AK rfl (Ev.AP (EZ neg (by omega) (by omega)) (Ev.same ?_));rw[Ve]
 · have hp:0<N:=by omega
   have b1:=C9 hp;refine Ev.AM (λk=>hz ((C1 h0).1 (by omega))) ?_;have BN:=Ho wN;rw[AR h0] at BN;refine Ev.bind BN ?_;have hu:un N e=max (bl N+e-53) (-1074):=rfl;by_cases h1:e>2000
   · refine Ev.AK h1 (Ev.AP (HH neg) (Ev.same ?_))
     rw[AAj hp (by omega)]
   · refine Ev.AM h1 ?_
     rw[AG (n:= -1200-bl N) (by omega) (by omega)];by_cases h2:e < -1200-bl N
     · refine Ev.AK h2 (Ev.AP (EZ neg (by omega) (by omega)) (Ev.same ?_))
       rw[Y4 h0 (by omega)]
     · refine Ev.AM h2 ?_
       rw[wo (by omega) (by omega) (by omega)];by_cases h3:un N e>971
       · refine Ev.AK h3 (Ev.AP (HH neg) (Ev.same ?_))
         rw[sC hp h3]
       · refine Ev.AM h3 ?_
         have hr:=Y1 (e:=e) hp;have hq:=ADg (e:=e) hp;have wj:=ACl N e;rw[AAh hp (by omega)];have S1:=C3 wN (by omega) (e-un N e);rw[AR h0,K6 (by omega)] at S1;rw[AG (n:=e-un N e) (by omega) (by omega)];refine Ev.bind S1 ?_;by_cases h4:e<un N e
         · refine Ev.AK h4 ?_
           rw[AG (n:=un N e-e) (by omega) (by omega)];obtain⟨d,hd⟩ : ∃d:Nat,un N e-e=d:=⟨(un N e-e).toNat,by omega⟩;have hdd:d<=58000:=(by omega);have e0:ru N e (un N e)=Oq N d:=by
            unfold ru;rw[show(e-un N e).toNat=0 by omega,AUW,AUk,hd,AUD]
           rw[show(e-un N e).toNat=0 by omega,AUW,AUk,hd,AUD] at hq;rw[e0] at hr ⊢;rw[hd];have R1:=Ka wN (n:=(d:Int)) (by omega);rw[AR h0,AUD] at R1;refine Ev.bind R1 ?_;have hdm:=AUV N (2^d);have hm0:=AUe N (show(2:Int)^d≠0 by have:=pow_pos d;omega);have hm1:=AUd N (pow_pos d);have hle:N/2^d<=N:=AU2 _ h0;have bq:=Bq hle;have wq:Wl (dg (N/2^d)):=Av (by omega);have lq:=AN (N/2^d);have S2:=C3 wq (by omega) (d:Int);rw[AR hq.1,K6 (by omega),AUD] at S2;refine Ev.bind S2 ?_;rw[AUQ] at hdm;have He:0<=N/2^d*2^d:=AUM hq.1 (by have:=pow_pos d;omega);have bp:=Bq (show N/2^d*2^d<=N by omega);have lp:=AN (N/2^d*2^d);have D:=HJ wN (b:=dg (N/2^d*2^d)) (Av (by omega)) (by omega) (by omega) (by rw[AR h0,AR He];omega);rw[AR h0,AR He,show N-N/2^d*2^d=N%2^d by omega] at D;refine Ev.bind D ?_;have br:=Bq (show N%2^d<=N by omega);have wr:Wl (dg (N%2^d)):=Av (by omega);have lr:=AN (N%2^d);have S3:=C3 wr (by omega) 1;rw[AR hm0,K6 (by omega),show(1:Int).toNat=1 from rfl,AVh] at S3;refine Ev.bind S3 ?_;have w1:Wl [1]:=⟨Gf (by unfold U;omega),by decide⟩;have S4:=C3 w1 (by decide) (d:Int);rw[Fp,K6 (by omega),AUD,AVd] at S4;refine Ev.bind S4 ?_;have bd:bl ((2:Int)^d)<=d+1:=BF (n:=d+1) (by rw[AUY];have:=pow_pos d;omega);have br2:=Bq (show N%2^d*2<=2^(d+1) by rw[AUY];omega);have bd2:bl ((2:Int)^(d+1))<=d+2:=BF (n:=d+2) (by rw[AUY,AUY];have:=pow_pos d;omega);have C:=GM (a:=dg (N%2^d*2)) (b:=dg (2^d)) (Av (by omega)) (Av (by omega));rw[AR (by omega),AR (by have:=pow_pos d;omega)] at C;refine Ev.bind C ?_;have A:=Ot wq w1 (by omega) (by decide);rw[AR hq.1,Fp] at A;clear S1 R1 S2 S3 S4 D C BN;by_cases h5:Gt (N%2^d*2) (2^d)>0
           · refine Ev.AK h5 (Ev.bind A ?_)
             have e1:Oq N d=N/2^d+1:=by
              unfold Oq;rw[if_pos (.inl (by have:=Ns.1 h5;omega))]
             rw[e1] at hr ⊢;exact MQ neg (by omega) hr.2.1 wj (by omega) hr.2.2
           · refine Ev.AM h5 ?_
             by_cases h6:Gt (N%2^d*2) (2^d)=0
             · refine Ev.AK h6 (Ev.AP (Ou wq (by omega)) ?_)
               rw[AR hq.1];have h7:=KZ.1 h6;by_cases h8:N/2^d%2=1
               · refine Ev.AK (by unfold bL;simp[h8]) (Ev.bind A ?_)
                 have e1:Oq N d=N/2^d+1:=by
                  unfold Oq;rw[if_pos (.inr ⟨by omega,h8⟩)]
                 rw[e1] at hr ⊢;exact MQ neg (by omega) hr.2.1 wj (by omega) hr.2.2
               · refine Ev.AM (by unfold bL;simp[h8]) ?_
                 have e1:Oq N d=N/2^d:=by
                  unfold Oq;rw[if_neg (by omega)]
                 rw[e1] at hr ⊢;exact MQ neg (by omega) hr.2.1 wj (by omega) hr.2.2
             · refine Ev.AM h6 ?_
               have e1:Oq N d=N/2^d:=by
                unfold Oq;rw[if_neg ?_];intro k;rcases k with k | k
                · exact h5 (Ns.2 (by omega))
                · exact h6 (KZ.2 (by omega))
               rw[e1] at hr ⊢;exact MQ neg (by omega) hr.2.1 wj (by omega) hr.2.2
         · refine Ev.AM h4 ?_
           have e0:ru N e (un N e)=N*2^(e-un N e).toNat:=by
            unfold ru;rw[show(un N e-e).toNat=0 by omega,MP]
           rw[e0] at hr ⊢;exact MQ neg hr.1 hr.2.1 wj (by omega) hr.2.2
theorem sF {l:List Int} (hl:Wl l) (hn:l.length<=900):Ev (λk=>Lb.f k l) (dg (2*nv l+1)):=by
 have h0:=AS hl.1;have hb:=GG hl.1;have S:=C3 hl (by omega) 1;rw[K6 (by omega),show(1:Int).toNat=1 from rfl,AVh] at S;refine Ev.bind S ?_;generalize nv l=N at *;have b1:bl (N*2)<=58000:=by
  have:=Dt (x:=N) (y:=2) h0 (by omega);have:bl 2=2:=rfl;omega
 have lN:=AN (N*2);have A:=Ot (a:=dg (N*2)) (b:= [1]) (Av (by omega)) ⟨Gf (by unfold U;omega),by decide⟩ (by omega) (by decide);rw[AR (by omega),Fp,show N*2+1=2*N+1 by omega] at A;exact Ev.bind A (Ev.same rfl)
theorem RE {l:List Int} (neg:Bool) (hl:Wl l) (hn:l.length<=100) (e:Int) (more:Bool):Ev (λk=>G5.f k neg l e more) (Jq neg (if more then Rd (2*nv l+1) (ce e-1) else Rd (nv l) (ce e))):=by
 have hE:=Yz e;have eE:mn (mx e (-1099511627776)) 1099511627776=ce e:=rfl;cases more
 · refine Ev.AM (by decide) ?_
   rw[eE];exact Ev.bind (Lf neg hl (by omega) (by omega) (by omega)) (Ev.same rfl)
 · refine Ev.AK rfl (Ev.bind (sF hl (by omega)) ?_)
   rw[eE];have h0:=AS hl.1;have hb:=GG hl.1;have b1:bl (2*nv l+1)<=6500:=by
    have a1:=F1 (nv l);have b0:=CI (nv l);have:=BF (x:=2*nv l+1) (n:=(bl (nv l)).toNat+1) (by rw[AUY];omega);omega
   have lN:=AN (2*nv l+1);have:=Lf neg (l:=dg (2*nv l+1)) (Av (by omega)) (by omega) (e:=ce e-1) (by omega) (by omega);rw[AR (by omega)] at this;exact Ev.bind this (Ev.same rfl)
theorem kH (n:Int):(Rq n 1).1=decide (n<0)/\(Rq n 1).2.1=dg (if n<0 then -n else n):=by
 by_cases h0:n=0
 · subst h0;exact⟨rfl,rfl⟩
 · have hn:0<(if n<0 then -n else n):=by split<;>omega
   have e:=AGZ (decide (n<0)) (d:=1) hn;have s:FG (decide (n<0)) (if n<0 then -n else n)=n:=by
    unfold FG;by_cases h:n<0
    · rw[decide_eq_true h,if_pos rfl,if_pos h];omega
    · rw[decide_eq_false h,if_neg Bool.false_ne_true,if_neg h]
   rw[s,AAe (AUE hn),AU9] at e;rw[e];exact⟨rfl,rfl⟩
theorem IB {n:Int} (h0 : -9223372036854775808<=n) (h1:n<=9223372036854775807):Ev (λk=>C8.f k n) (Jq (decide (n<0)) (Rd (if n<0 then -n else n) 0)):=by
 have hn:0<=(if n<0 then -n else n)/\(if n<0 then -n else n)<=9223372036854775808:=by split<;>omega
 have b:bl (if n<0 then -n else n)<=64:=Sn (by omega);have l:=AN (if n<0 then -n else n);have O:=Lf (l:=dg (if n<0 then -n else n)) (e:=0) (decide (n<0)) (Av (by omega)) (by omega) (by omega) (by omega);rw[AR hn.1,<-(kH n).1,<-(kH n).2] at O;rw[<-(kH n).1];exact Ev.bind (Q2 h0 h1) (Ev.bind O (Ev.same rfl))
def sv (X r:Int):Int:=if r*r=X then 2*r else 2*r+1
theorem AIj {X r r' c:Int} (h:KK X r) (h':KK (X*4) r') (hr:9007199254740992<=r):Rd (sv X r) c=Rd (sv (X*4) r') (c-1):=by
 have hs:0<sv X r:=by unfold sv;split<;>omega
 rw[<-Iy hs c 1,AVh,show c-((1:Nat):Int)=c-1 from rfl];obtain⟨h0,h1,h2⟩:=h;obtain⟨g0,g1,g2⟩:=h';have e1:(2*r)*(2*r)=r*r*4:=by grind
 have e2:(2*(r+1))*(2*(r+1))=(r+1)*(r+1)*4:=by grind
 have k1:2*r<=r':=by
  have:=Fq (a:=2*r) (b:=r'+1) (by omega) (by omega);omega
 have k2:r'<2*(r+1):=Fq (by omega) (by omega);by_cases hx:r*r=X
 · have:r'=2*r:=by
    have:=AGf (a:=r') (b:=2*r) (by omega) (by omega);omega
   unfold sv;rw[if_pos hx,if_pos (by rw[this];omega),this]
   congr 1
   omega
 · have hx':r'*r'≠X*4:=by
    intro he;rcases(show r'=2*r\/r'=2*r+1 by omega) with rfl | rfl
    · omega
    · have:(2*r+1)*(2*r+1)=r*r*4+4*r+1:=by grind
      omega
   unfold sv;rw[if_neg hx,if_neg hx'];refine RD (g:=2) (by omega) (by omega) (by omega) (by omega) ?_;have:=XX (x:=(2*r+1)*2) (n:=55) (by omega);unfold un;omega
theorem AGg (j:Nat) : ∀ {X r r' c:Int},KK X r->KK (X*4^j) r'->9007199254740992<=r->Rd (sv X r) c=Rd (sv (X*4^j) r') (c-j):=by
 induction j with
 | zero =>
   intro X r r' c h h' hr;rw[AUW,AUk] at h' ⊢;rw[xA h h',show c-((0:Nat):Int)=c by omega]
 | succ j ih =>
   intro X r r' c h h' hr;have e:X*4^(j+1)=X*4*4^j:=(by rw[AUY,AUQ (4^j),AUl]);rw[e] at h' ⊢;obtain⟨h0,h1,h2⟩:=h;have hX:0<=X:=by
    have:=AUM h0 h0;omega
   obtain⟨s,hs⟩:=iC (A:=X*4) (by omega);have e1:(2*r)*(2*r)=r*r*4:=(by grind);have hs2:=hs.2.2;have:2*r<s+1:=Fq (by have:=hs.1;omega) (by omega);rw[AIj ⟨h0,h1,h2⟩ hs hr,ih hs h' (by omega)]
   congr 1
   omega
def AAk (m e w:Int):Prop:= ∃(up:Nat) (c r:Int),e-up=2*(c+1)/\KK (m*2^up) r/\9007199254740992<=r/\w=Rd (sv (m*2^up) r) c
theorem AGh (j:Nat):(4:Int)^j=2^(2*j):=by rw[Int.pow_mul];rfl
theorem ACm {m e:Int} {up up':Nat} {c c' r r':Int} (hle:up<=up') (h1:e-up=2*(c+1)) (h2:KK (m*2^up) r) (h3:9007199254740992<=r) (k1:e-up'=2*(c'+1)) (k2:KK (m*2^up') r') :
 Rd (sv (m*2^up) r) c=Rd (sv (m*2^up') r') c':=by
 obtain⟨j,hj⟩ : ∃j,up'=up+2*j:=⟨(up'-up)/2,by omega⟩;subst hj;have e1:m*2^(up+2*j)=m*2^up*4^j:=by rw[AUZ,AGh,AUl]
 rw[e1] at k2 ⊢;rw[AGg j h2 k2 h3]
 congr 1
 omega
theorem cz {m e w w':Int} (h:AAk m e w) (h':AAk m e w'):w=w':=by
 obtain⟨up,c,r,h1,h2,h3,rfl⟩:=h;obtain⟨up',c',r',k1,k2,k3,rfl⟩:=h';rcases AXY up up' with hle | hle
 · exact ACm hle h1 h2 h3 k1 k2
 · exact(ACm hle k1 k2 k3 h1 h2).symm
theorem AIk {m:Int} (h:0<m) (e:Int) : ∃w,AAk m e w:=by
 obtain⟨up,hup,hp⟩ : ∃up:Nat,(e-up)%2=0/\106<=up:=by
  rcases(show e%2=0\/e%2=1 by omega) with h1 | h1
  · exact⟨106,by omega,by omega⟩
  · exact⟨107,by omega,by omega⟩
 have h2:(2:Int)^106<=m*2^up:=by
  have a1:=Ar hp;have:=AUL (show 1<=m by omega) (AUE (pow_pos up));omega
 obtain⟨r,hr⟩:=iC (A:=m*2^up) (by have:=pow_pos 106;omega);have h3:=hr.2.2;have:(9007199254740992:Int)<r+1:=Fq (by have:=hr.1;omega) (by omega);exact⟨_,up,(e-up)/2-1,r,by omega,hr,by omega,rfl⟩
theorem AIl {X r c:Int} (h:KK X r) (hr:18014398509481984<=r):Rd (if r*r=X then r else r/2*2+1) c=Rd (sv X r) (c-1):=by
 have hs:0<(if r*r=X then r else r/2*2+1):=by split<;>omega
 rw[<-Iy hs c 1,AVh,show c-((1:Nat):Int)=c-1 from rfl];unfold sv;by_cases hx:r*r=X
 · rw[if_pos hx,if_pos hx,AUQ]
 · rw[if_neg hx,if_neg hx]
   refine RD (g:=2) (by omega) (by omega) (by omega) (by omega) ?_;have:=XX (x:=(r/2*2+1)*2) (n:=55) (by omega);unfold un;omega
theorem xB {a:Int} (h:U a) (h1:fk a≠4) (h3:fk a≠3):Jq (fs a) (Rd (pm a) (pe a))=a:=by
 have k:=Oo a;rw[AGi (by omega)];exact(AAl h).symm
def near (b:Int):Int × Bool:=if fx b=2047\/bl (pm b)+pe b>62 then(0,false) else(if fs b then -(ru (pm b) (pe b) 0) else ru (pm b) (pe b) 0,true)
def Mo (b k:Int):Int:=if fx b=2047 then cl b else Jq (fs b) (Rd (pm b) (pe b+min (max k (-5000)) 5000))
theorem AAm (b k:Int):Rd (pm b) (pe b+min (max k (-9000)) 9000)=Rd (pm b) (pe b+min (max k (-5000)) 5000):=by
 have h1:=CP b;have h2:=Ct b;have h3:bl (pm b)<=53:=BF (n:=53) (by omega);rcases(show pm b=0\/0<pm b by omega) with h | h
 · rw[h,Ve,Ve]
 · rcases(show 5000<k\/k < -5000\/(-5000<=k/\k<=5000) by omega) with hk | hk | hk
   · rw[AAj h (by omega),AAj h (by omega)]
   · rw[Y4 (by omega) (by omega),Y4 (by omega) (by omega)]
   · congr 1
     omega
theorem AGj {b:Int} (h:U b) (k:Int):U (Mo b k):=by
 unfold Mo cl;split
 · split
   · exact cu
   · exact h
 · exact r8 ..
def WA (b:Int):Int:=if fs b then -(b-9223372036854775808) else b
def less (a b:Int):Bool:=decide (fk a≠4/\fk b≠4/\WA a<WA b)
def fint (n:Int):Int:=Jq (decide (n<0)) (Rd (if n<0 then -n else n) 0)
theorem Mp (n:Int):U (fint n):=r8 ..
def V (b:Int):Int:=pm b*2^(pe b+1074).toNat
def SV (b:Int):Int:=FG (fs b) (V b)
def mw (b:Int):Int:=fx b*4503599627370496+fr b
theorem xC (b:Int):0<=V b:=AUM (CP b).1 (by have:=pow_pos (pe b+1074).toNat;omega)
theorem ACn {b:Int} (h:fx b=0):V b=fr b:=by
 unfold V pm pe;rw[if_pos h,if_pos h];show fr b*2^0=_;rw[AUW,AUk]
theorem Xa {b:Int} {n:Nat} (h:fx b=n+1):V b=(fr b+4503599627370496)*2^n:=by
 unfold V pm pe;rw[if_neg (by omega),if_neg (by omega),show(fx b-1075+1074).toNat=n by omega]
theorem APk {a b:Int} (h:mw a<mw b):V a<V b:=by
 have a1:= @Iz a;have a2:= @IA a;have b1:= @Iz b;have b2:= @IA b;unfold mw at h;rcases(show fx a=fx b\/fx a<fx b by omega) with he | he
 · rcases(show fx b=0\/0<fx b by omega) with h0 | h0
   · rw[ACn (by omega),ACn h0]
     omega
   · obtain⟨n,hn⟩ : ∃n:Nat,fx b=n+1:=⟨(fx b-1).toNat,by omega⟩
     rw[Xa (by omega:fx a=n+1),Xa hn];exact AUw (by omega) (pow_pos n)
 · obtain⟨n,hn⟩ : ∃n:Nat,fx b=n+1:=⟨(fx b-1).toNat,by omega⟩
   rw[Xa hn];have hp:=pow_pos n;have hb:4503599627370496*2^n<=(fr b+4503599627370496)*2^n:=AUL (by omega) (by omega);rcases(show fx a=0\/0<fx a by omega) with h0 | h0
   · rw[ACn h0]
     omega
   · obtain⟨m,hm⟩ : ∃m:Nat,fx a=m+1:=⟨(fx a-1).toNat,by omega⟩
     rw[Xa hm];have hq:=pow_pos m;have h1:(fr a+4503599627370496)*2^m<9007199254740992*2^m:=AUw (by omega) hq;have h2:=Ar (show m+1<=n by omega);rw[AUY] at h2;omega
theorem ALS {a b:Int} (h:mw a=mw b):V a=V b:=by
 have a1:= @Iz a;have a2:= @IA a;have b1:= @Iz b;have b2:= @IA b;unfold mw at h;have h1:fx a=fx b:=by omega
 have h2:fr a=fr b:=by omega
 unfold V pm pe;rw[h1,h2]
theorem AGk (a b:Int):(V a<V b↔mw a<mw b)/\(V a=V b↔mw a=mw b):=by
 rcases AV3 (mw a) (mw b) with h | h | h
 · have:=APk h
   omega
 · have:=ALS h
   omega
 · have:=APk h
   omega
theorem oy (b:Int):0<=mw b:=by
 have a1:= @Iz b;have a2:= @IA b;unfold mw;omega
theorem AGl (b:Int):V b=0↔mw b=0:=by
 have h:=(AGk b 0).2;have e1:V 0=0:=by decide
 have e2:mw 0=0:=by decide
 rw[e1,e2] at h;exact h
theorem ACo {b:Int} (h:U b):WA b=FG (fs b) (mw b):=by
 unfold U at h;unfold WA FG fs mw fx fr;by_cases hb:b>=9223372036854775808
 · rw[decide_eq_true hb,if_pos rfl,if_pos rfl];omega
 · rw[decide_eq_false hb,if_neg (by decide),if_neg (by decide)];omega
theorem AIm {a b:Int} (ha:U a) (hb:U b):(SV a<SV b↔WA a<WA b)/\(SV a=SV b↔WA a=WA b):=by
 rw[ACo ha,ACo hb];have h1:=AGk a b;have h2:=AGk b a;have h3:=xC a;have h4:=xC b;have h5:=oy a;have h6:=oy b;have h7:=AGl a;have h8:=AGl b;unfold SV FG;cases fs a<;>cases fs b<;>simp only[if_true,AVI,if_false]<;>omega
theorem NV {M l:Int} (h0:0<M) (h1:M<9007199254740992) (hl0 : -1074<=l) (hl1:l<=971):fx (Rd M l)≠2047/\fs (Rd M l)=false/\V (Rd M l)=M*2^(l+1074).toNat/\U (Rd M l):=by
 have b0:=C9 h0;have b1:bl M<=53:=BF (n:=53) h1;have hu:un M l=max (bl M+l-53) (-1074):=rfl;have q:=ADg (e:=l) h0;have hz:(un M l-l).toNat=0:=by omega
 have hR:Rd M l=(un M l+1074)*4503599627370496+M*2^(l-un M l).toNat:=by
  rw[Tw h0 (by omega) (by rw[hz,AUW,AVs]),hz,AUW,AU9]
 rw[hz,AUW,AU9] at q;rw[hR];have hV:M*2^(l+1074).toNat=M*2^(l-un M l).toNat*2^(un M l+1074).toNat:=by
  rw[AUl,<-AUZ]
  congr 2
  omega
 rw[hV];have wj : -1074<=un M l:=ACl M l;have hu2:un M l<=971:=by omega
 generalize M*2^(l-un M l).toNat=w at *;generalize un M l=u at *;clear hR hV hz hu;obtain⟨w0,w1,w2⟩:=q;have hsp:=Lc (x:=(u+1074)*4503599627370496+w) (by omega) (by omega) false;have es:Jq false ((u+1074)*4503599627370496+w)=(u+1074)*4503599627370496+w:=rfl;rw[es] at hsp;obtain⟨s1,s2,s3,s4⟩:=hsp;generalize hb:(u+1074)*4503599627370496+w=b at *;refine⟨by omega,s2, ?_,s1⟩;rcases AU1 w 4503599627370496 with h | h
 · obtain rfl:u= -1074:=by omega
   rw[ACn (by omega)];show fr b=w*2^0;rw[AUW,AUk];omega
 · rw[Xa (n:=(u+1074).toNat) (by omega)]
   congr 1
   omega
theorem ACp {N D e:Int} (hq:0<N/D):(if decide (((dg (N%D)).length:Int)>0)=true then Rd (2*(N/D)+1) (e-1) else Rd (N/D) e)=Rd (qv N D) (e-1)\/N%D<0:=by
 rcases AU1 (N%D) 0 with h | h
 · exact .inr h
 · left
   unfold qv;by_cases hz:N%D=0
   · rw[hz,IZ,if_neg (by decide),if_pos rfl,<-Iy hq e 1,AVh,AUQ]
     rfl
   · have:(dg (N%D)).length≠0:=λk=>hz ((C1 h).1 (by omega))
     rw[if_pos (decide_eq_true (by omega)),if_neg hz]
def fR (neg:Bool) (N D:Int):Int:=if N=0 then 0 else Jq neg (fq N D)
theorem oz {N D:Int} {up:Nat} (hN:0<N) (hD:0<D) {m:Int} (hm:bl N+up<=m):0<=N*2^up/D/\bl (N*2^up/D)<=m/\0<=N*2^up%D/\bl (N*2^up%D)<=m:=by
 have hp:=pow_pos up;have h0:0<N*2^up:=AU3 hN hp;have hb:bl (N*2^up)=bl N+up:=Po hN up;have h1:N*2^up/D<=N*2^up:=AU2 _ (by omega);have h3:=AUV (N*2^up) D;have h4:=AUM (show 0<=D by omega) (AUX (show 0<=N*2^up by omega) (show 0<=D by omega));have h2:N*2^up%D<=N*2^up:=by omega
 exact⟨AUX (by omega) (by omega),by have:=Bq h1;omega,AUe _ (by omega),by have:=Bq h2;omega⟩
theorem bN {a b:List Int} (neg:Bool) (ha:Wl a) (hb:Wl b) (hla:a.length<=30) (hlb:b.length<=30) (hB:0<nv b):Ev (λk=>CJ.f k neg a b) (fR neg (nv a) (nv b)):=by
 have na:=AS ha.1;have ba:=GG ha.1;have bb:=GG hb.1;have pb:=C9 hB;have b0:=CI (nv a);refine Ev.bind (Hj ha) (Ev.bind (Hj hb) (Ev.bind (XW neg ha) ?_));have SG:=XW (b:=b) neg ha;rw[AG (n:=bl (nv a)-bl (nv b)) (by omega) (by omega)];unfold fR;by_cases hz:nv a=0
 · rw[if_pos hz]
   rw[if_pos hz] at SG ⊢;refine Ev.AK rfl (Ev.eqv (λk=>CJ.j0.eq_1 ..) (Ev.AK rfl ?_));cases neg
   · exact Ev.AM (by decide) (Ev.bind (Fe false) (Ev.same rfl))
   · exact Ev.AK rfl (Ev.bind SG (Ev.bind (Fe _) (Ev.same rfl)))
 · have hN:0<nv a:=by omega
   rw[if_neg hz] at SG ⊢;have hs:(if neg=true then(-1:Int) else 1)≠0:=(by cases neg<;>decide);rw[if_neg hz];refine Ev.AM hs (Ev.eqv (λk=>CJ.j0.eq_1 ..) ?_);by_cases h1:bl (nv a)-bl (nv b) < -1200
   · refine Ev.AK (decide_eq_true h1) ?_
     have e:fq (nv a) (nv b)=0:=(by unfold fq;rw[if_pos h1]);rw[e];cases neg
     · exact Ev.AM (by decide) (Ev.bind (Fe false) (Ev.same rfl))
     · exact Ev.AK rfl (Ev.bind SG (Ev.bind (Fe _) (Ev.same rfl)))
   · refine Ev.AM (by simp;omega) ?_
     by_cases h2:bl (nv a)-bl (nv b)>1200
     · refine Ev.AK h2 (Ev.AP (HG neg) (Ev.same ?_))
       unfold fq;rw[if_neg (by omega),if_pos (by omega)]
     · refine Ev.AM h2 ?_
       rw[ALQ hN hB (by omega) (by omega)];have eM:mx (wrap64 (70-(bl (nv a)-bl (nv b)))) 0=max (70-(bl (nv a)-bl (nv b))) 0:=by
        rw[AG (by omega) (by omega)];unfold mx;split<;>omega
       rw[eM];have S:=Vf ha (by omega) (max (70-(bl (nv a)-bl (nv b))) 0);rw[T3 (by omega) (by omega)] at S;refine Ev.bind S ?_;obtain⟨up,hup⟩ : ∃up:Nat,max (70-(bl (nv a)-bl (nv b))) 0=(up:Int):=⟨(max (70-(bl (nv a)-bl (nv b))) 0).toNat,by omega⟩;have q:=Y2 (up:=up) (g:=1) hN hB (by omega);rw[hup,AUD];have ds:=oz (up:=up) hN hB (m:=4000) (by omega);have He:0<nv a*2^up:=AU3 hN (pow_pos up);have bs:bl (nv a*2^up)=bl (nv a)+up:=Po hN up;have ls:=AN (nv a*2^up);have D:=RF (a:=dg (nv a*2^up)) (b:=b) (Av (by omega)) hb (by omega);rw[if_neg (by omega),AR (by omega)] at D;refine Ev.bind D ?_;dsimp only;have lq:=AN (nv a*2^up/nv b);have F:=wz neg (l:=dg (nv a*2^up/nv b)) (Av (by omega)) (by omega) (wrap64 (-(up:Int))) (decide (((dg (nv a*2^up%nv b)).length:Int)>0));rw[AR ds.1,AG (by omega) (by omega),M8 (by omega) (by omega)] at F;have k:=ACp (N:=nv a*2^up) (D:=nv b) (e:= -(up:Int)) (by omega);rw[k.resolve_right (by omega)] at F;rw[AG (by omega) (by omega)];exact Ev.bind F (Ev.same rfl)
theorem gC {a b:List Int} (neg:Bool) (ha:Wl a) (hb:Wl b) (hla:a.length<=30) (hlb:b.length<=30) (hB:0<nv b) (hc:dg (nv a)=a):Ev (λk=>GL.f k neg a b) (fR neg (nv a) (nv b)):=by
 have na:=AS ha.1;have ba:=GG ha.1;have bb:=GG hb.1;have pb:=C9 hB;have b0:=CI (nv a);refine Ev.AP rfl ?_;unfold fR;by_cases hz:nv a=0
 · rw[if_pos hz]
   have:a= []:=(by rw[<-hc,hz,IZ]);exact Ev.AK (by rw[this];rfl) (Ev.same rfl)
 · have hN:0<nv a:=by omega
   rw[if_neg hz];have hl:a.length≠0:=λk=>hz (by rw[List.length_eq_zero_iff.1 k];rfl)
   refine Ev.AM (by simp;exact λk=>hl (by rw[k];rfl)) ?_;refine Ev.bind (Ho ha) (Ev.bind (Ho hb) ?_);rw[AG (n:=bl (nv a)-bl (nv b)) (by omega) (by omega)];unfold fq;by_cases h1:bl (nv a)-bl (nv b)>1100
   · refine Ev.AK h1 (Ev.AP (HH neg) (Ev.same ?_))
     rw[if_neg (by omega),if_pos h1]
   · refine Ev.AM h1 ?_
     by_cases h2:bl (nv a)-bl (nv b) < -1200
     · refine Ev.AK h2 (Ev.AP (EZ neg (by omega) (by omega)) (Ev.same ?_))
       rw[if_pos h2]
     · refine Ev.AM h2 ?_
       rw[if_neg h2,if_neg h1];have eM:mx 0 (wrap64 (64-(bl (nv a)-bl (nv b))))=max 0 (64-(bl (nv a)-bl (nv b))):=by
        rw[AG (by omega) (by omega)];unfold mx;split<;>omega
       rw[eM];have S:=C3 ha (by omega) (max 0 (64-(bl (nv a)-bl (nv b))));rw[T3 (by omega) (by omega)] at S;refine Ev.bind S ?_;obtain⟨up,hup⟩ : ∃up:Nat,max 0 (64-(bl (nv a)-bl (nv b)))=(up:Int):=⟨(max 0 (64-(bl (nv a)-bl (nv b)))).toNat,by omega⟩;have q:=Y2 (up:=up) (g:=1) hN hB (by omega);rw[hup,AUD];have ds:=oz (up:=up) hN hB (m:=4000) (by omega);have He:0<nv a*2^up:=AU3 hN (pow_pos up);have bs:bl (nv a*2^up)=bl (nv a)+up:=Po hN up;have ls:=AN (nv a*2^up);have D:=c8 (a:=dg (nv a*2^up)) (b:=b) (Av (by omega)) hb (by omega) (by omega) hB;rw[AR (by omega)] at D;refine Ev.bind D ?_;dsimp only;have lq:=AN (nv a*2^up/nv b);have F:=RE neg (l:=dg (nv a*2^up/nv b)) (Av (by omega)) (by omega) (wrap64 (-(up:Int))) (decide (((dg (nv a*2^up%nv b)).length:Int)>0));rw[AR ds.1,AG (by omega) (by omega),M8 (by omega) (by omega)] at F;have k:=ACp (N:=nv a*2^up) (D:=nv b) (e:= -(up:Int)) (by omega);rw[k.resolve_right (by omega)] at F;rw[AG (by omega) (by omega)];exact Ev.bind F (Ev.same rfl)
theorem sG {x:Int} (h:U x):Go.bits .or .u64 x 1=x/2*2+1:=by
 obtain⟨h0,h1⟩:=h;have hj:Go.bits .or .u64 (x/2*2) 1=x/2*2+1:=Fx 1 _ _ (by omega) (by omega) (by omega) (by omega) (by omega) (by omega);rcases(show x%2=0\/x%2=1 by omega) with h | h
 · rw[show x/2*2=x by omega] at hj ⊢
   exact hj
 · obtain⟨a,ha⟩:=AUP (show 0<=x/2*2 by omega)
   rw[ha] at hj ⊢;have e1:=kI a 1 (by omega) (by decide);have e2:=kI (a ||| 1) 1 (by have:=Nat.or_lt_two_pow (n:=64) (x:=a) (y:=1) (by omega) (by decide);exact this) (by decide);rw[Nat.or_assoc,Nat.or_self] at e2;rw[show((1:Nat):Int)=1 from rfl] at e1 e2;rw[hj] at e1;rw[<-e1] at e2;rw[show x=(a:Int)+1 by omega];exact e2
theorem AAn {m:Int} (h0:0<=m) (h1:m<9007199254740992) (s:Nat):MM.f m s=some (st m s):=by
 unfold MM.f;by_cases hs:(s:Int)>63
 · rw[if_pos hs]
   have:=Ar (a:=64) (b:=s) (by omega);unfold st mn;rw[AUp h0 (by omega),AUo h0 (by omega)];rcases(show m=0\/1<=m by omega) with h | h
   · rw[h];rfl
   · rw[if_neg (show¬m=0 by omega)]
     congr 1
     split<;>omega
 · rw[if_neg hs,if_pos (by omega),WV _ _ (by omega),M7 _ _ (by omega),AUD]
   have hp:=pow_pos s;have hd:=AUV m (2^s);have hr:=AUe m (show(2:Int)^s≠0 by omega);have hq:0<=m/2^s:=AUX h0 (by omega);have hqm:m/2^s<=m:=AU2 _ h0;have hpq:0<=m/2^s*2^s:=AUM hq (by omega);rw[AUQ] at hd;rw[AUp hpq (by omega),sG (by unfold U;omega)];unfold st;by_cases h:m%2^s=0
   · rw[if_pos h,if_pos (by omega)]
   · rw[if_neg h,if_neg (by omega)]
theorem T4 {m e n f:Int} (a b:Bool) (hm0:0<=m) (hm:m<9007199254740992) (hn0:0<=n) (hn:n<9007199254740992) (hef:f<=e) (hf : -1074<=f) (he:e<=1000) (hw:e= -1074\/4503599627370496<=m) :
 Ev (λk=>De.j0 k a m e b n f) (if a=b then Jq a (Rd (m*2^(e-f).toNat+n) f) else if m*2^(e-f).toNat=n then 0 else if m*2^(e-f).toNat>n then Jq a (Rd (m*2^(e-f).toNat-n) f) else Jq b (Rd (n-m*2^(e-f).toNat) f)):=by
 refine Ev.eqv (λk=>De.j0.eq_1 ..) ?_;have e1:mn (wrap64 (e-f)) 10=min (e-f) 10:=by
  rw[AG (by omega) (by omega)];unfold mn;split<;>omega
 obtain⟨up,hup⟩ : ∃up:Nat,(up:Int)=min (e-f) 10:=⟨(min (e-f) 10).toNat,by omega⟩;obtain⟨s,hs⟩ : ∃s:Nat,e-up-f=s:=⟨(e-up-f).toNat,by omega⟩;rw[e1,<-hup];have e2:wrap64 (e-(up:Int))=e-up:=AG (by omega) (by omega);have e3:wrap64 (e-(up:Int)-f)=s:=by rw[AG (by omega) (by omega)];exact hs
 rw[e2,e3];refine Ev.AK (by omega) (Ev.AP (AAn hn0 hn s) ?_);have hS:=ALN hm0 hm hn0 hn hef hf hw hup hs;have hX0:0<=m*2^up:=AUM hm0 (by have:=pow_pos up;omega);have hX1:m*2^up<=9007199254740991*1024:=AWl (by omega) (Ar (show up<=10 by omega)) (by have:=pow_pos up;omega) (by omega);have hY0:=ow hn0 s;have hY1:st n s<=n+1:=by
  have:=AJ8 hn0 s;have:n/2^s<=n:=AU2 _ hn0;omega
 rw[AUD,DC hX0 (by omega),DC (n:=m*2^up+st n s) (by omega) (by omega)];obtain⟨s1,s2,s3,s4,s5⟩:=hS;generalize m*2^up=X at *;generalize st n s=Y at *;generalize m*2^(e-f).toNat=M at *;have hce:ce (e-(up:Int))=e-up:=M8 (by omega) (by omega);by_cases hab:a=b
 · rw[if_pos hab]
   refine Ev.AK (by rw[hab];simp) ?_;refine Ev.bind (Cg (e:=e-(up:Int)) a (m:=X+Y) (by unfold U;omega)) (Ev.same ?_);rw[hce,s1]
 · rw[if_neg hab]
   refine Ev.AM (by simp[hab]) ?_;by_cases h1:X>Y
   · rw[if_neg (show¬M=n by omega),if_pos (s2.1 h1)]
     refine Ev.AK h1 ?_;rw[DC (by omega) (by omega)];refine Ev.bind (Cg (e:=e-(up:Int)) a (m:=X-Y) (by unfold U;omega)) (Ev.same ?_);rw[hce,s4 h1]
   · refine Ev.AM h1 ?_
     by_cases h2:X<Y
     · rw[if_neg (show¬M=n by omega),if_neg (show¬M>n by omega)]
       refine Ev.AK h2 ?_;rw[DC (by omega) (by omega)];refine Ev.bind (Cg (e:=e-(up:Int)) b (m:=Y-X) (by unfold U;omega)) (Ev.same ?_);rw[hce,s5 h2]
     · rw[if_pos (show M=n by omega)]
       exact Ev.AM h2 (Ev.same rfl)
theorem nP {a b:Int} (ha:fx a≠2047) (hb:fx b≠2047):Ev (λk=>De.f k (fs a) (pm a) (pe a) (fs b) (pm b) (pe b)) (fsF a b):=by
 have a1:=CP a;have a2:=Ct a;have b1:=CP b;have b2:=Ct b;by_cases h:pe a<pe b
 · refine Ev.AK h ((T4 (fs b) (fs a) b1.1 b1.2 a1.1 a1.2 (by omega) (by omega) (by omega) b2.2.2.2).WS ?_)
   rw[AGb];unfold fsF;rw[show min (pe b) (pe a)=pe a by omega,show(pe a-pe a).toNat=0 by omega,AUW,AUk]
 · refine Ev.AM h ((T4 (fs a) (fs b) a1.1 a1.2 b1.1 b1.2 (by omega) (by omega) (by omega) a2.2.2.2).WS ?_)
   unfold fsF;rw[show min (pe a) (pe b)=pe b by omega,show(pe b-pe b).toNat=0 by omega,AUW,AUk]
theorem o7 {b:Int} (h:U b) (hx:fx b≠2047):Ev (λk=>Om.f k b) (fs b,pm b,pe b):=by
 have:=J8 h;rw[if_neg hx] at this;exact Ev.bind this (Ev.same rfl)
theorem Hq {a b:Int} (ha:U a) (hb:U b):Ev (λk=>Bf.f k a b) (QM a b):=by
 refine Ev.AP (CZ ha) (Ev.AP (CZ hb) ?_);have nan : ∀t:Bool,t=true->(fk a=4\/fk b=4)->Ev (λk=>Bf.j0 k a b (fk a) (fk b) t) (QM a b):=by
  intro t ht h;refine Ev.step (λk=>Bf.j0.eq_2 ..) (Ev.AK ht (Ev.AP FQ (Ev.same ?_)));unfold QM;rw[if_pos h]
 by_cases h1:fk a=4
 · exact Ev.AK h1 (nan _ rfl (.inl h1))
 · refine Ev.AM h1 ?_
   by_cases h2:fk b=4
   · exact nan _ (by rw[h2];rfl) (.inr h2)
   · refine Ev.step (λk=>Bf.j0.eq_2 ..) (Ev.AM (by simp[h2]) ?_)
     have j1 : ∀t:Bool,(t=true↔(fk a=3/\fk b=3/\a≠b))->Ev (λk=>Bf.j1 k a b (fk a) (fk b) t) (QM a b):=by
      intro t ht;refine Ev.step (λk=>Bf.j1.eq_2 ..) ?_;unfold QM;rw[if_neg (show¬(fk a=4\/fk b=4) by omega)];by_cases h3:fk a=3/\fk b=3/\a≠b
      · rw[if_pos h3]
        exact Ev.AK (ht.2 h3) (Ev.AP FQ (Ev.same rfl))
      · rw[if_neg h3]
        refine Ev.AM (λk=>h3 (ht.1 k)) ?_;by_cases h4:fk a=3
        · rw[if_pos h4]
          exact Ev.AK h4 (Ev.same rfl)
        · rw[if_neg h4]
          refine Ev.AM h4 ?_;by_cases h5:fk b=3
          · rw[if_pos h5]
            exact Ev.AK h5 (Ev.same rfl)
          · rw[if_neg h5]
            refine Ev.AM h5 (Ev.bind (o7 ha (I0 (λk=>h1 k) h4)) (Ev.bind (o7 hb (I0 h2 h5)) ?_));exact Ev.bind (nP (I0 h1 h4) (I0 h2 h5)) (Ev.same rfl)
     by_cases h3:fk a=3
     · refine Ev.AK h3 ?_
       by_cases h4:fk b=3
       · exact Ev.AK h4 (j1 _ (by simp[h3,h4]))
       · exact Ev.AM h4 (j1 _ (by simp[h4]))
     · exact Ev.AM h3 (j1 _ (by simp[h3]))
theorem RH {a b:Int} (ha:U a) (hb:U b):Ev (λk=>H7.f k a b) (wW a b):=Ev.AP (Yv hb) (Ev.bind (Hq ha (AIc b)) (Ev.same rfl))
theorem gD {a b:Int} (ha:U a) (hb:U b) (hxa:fx a≠2047) (hxb:fx b≠2047):Ev (λk=>Hh.f k a b) (fsF a b):=by
 have a1:=CP a;have a2:=Ct a;have b1:=CP b;have b2:=Ct b;have em:mn (pe a) (pe b)=min (pe a) (pe b):=by unfold mn;split<;>omega
 refine Ev.AP (EP ha) (Ev.AP (EP hb) ?_);dsimp only;rw[em];unfold fsF;obtain⟨l,hl⟩ : ∃l,min (pe a) (pe b)=l:=⟨_,rfl⟩;rw[hl,AG (n:=pe a-l) (by omega) (by omega),AG (n:=pe b-l) (by omega) (by omega)];have wa:Wl [pm a]:=⟨Gf (by unfold U;omega),by simp⟩;have wb:Wl [pm b]:=⟨Gf (by unfold U;omega),by simp⟩;have Sa:=C3 wa (by simp) (pe a-l);have Sb:=C3 wb (by simp) (pe b-l);rw[Fp,K6 (by omega)] at Sa Sb;refine Ev.bind Sa (Ev.bind Sb (Ev.AP (Cs ha) (Ev.AP (Cs hb) ?_)));have bX:bl (pm a*2^(pe a-l).toNat)<=4000:=by
  have h1:=Dt a1.1 (show(0:Int)<=2^(pe a-l).toNat by have:=pow_pos (pe a-l).toNat;omega);have h2:bl (pm a)<=53:=BF (n:=53) a1.2;have h3:bl ((2:Int)^(pe a-l).toNat)<=((pe a-l).toNat+1:Nat):=BF (by rw[AUY];have:=pow_pos (pe a-l).toNat;omega);omega
 have bY:bl (pm b*2^(pe b-l).toNat)<=4000:=by
  have h1:=Dt b1.1 (show(0:Int)<=2^(pe b-l).toNat by have:=pow_pos (pe b-l).toNat;omega);have h2:bl (pm b)<=53:=BF (n:=53) b1.2;have h3:bl ((2:Int)^(pe b-l).toNat)<=((pe b-l).toNat+1:Nat):=BF (by rw[AUY];have:=pow_pos (pe b-l).toNat;omega);omega
 have X0:0<=pm a*2^(pe a-l).toNat:=AUM a1.1 (by have:=pow_pos (pe a-l).toNat;omega);have Y0:0<=pm b*2^(pe b-l).toNat:=AUM b1.1 (by have:=pow_pos (pe b-l).toNat;omega);have hl0 : -2000<=l:=by omega
 have hl1:l<=2000:=by omega
 clear Sa Sb wa wb a1 a2 b1 b2 hl em;generalize pm a*2^(pe a-l).toNat=X at *;generalize pm b*2^(pe b-l).toNat=Y at *;have wX:Wl (dg X):=Av (by omega);have wY:Wl (dg Y):=Av (by omega);have lX:=AN X;have lY:=AN Y;have OF : ∀(s:Bool) (Z:Int),0<=Z->bl Z<=5000->Ev (λk=>B6.f k s (dg Z) l) (Jq s (Rd Z l)):=by
  intro s Z hZ hb;have lZ:=AN Z;have:=Lf s (l:=dg Z) (Av (by omega)) (by omega) (e:=l) (by omega) (by omega)
  rwa [AR hZ] at this
 by_cases hs:fs a=fs b
 · rw[if_pos hs]
   refine Ev.AK (by rw[hs];simp) ?_;have A:=Ot wX wY (by omega) (by omega);rw[AR X0,AR Y0] at A;have bA:=Tt X0 Y0 (m:=4000) bX bY;exact Ev.bind A (Ev.bind (OF _ _ (by omega) (by omega)) (Ev.same rfl))
 · rw[if_neg hs]
   refine Ev.AM (by simp[hs]) ?_;have C:=GM wX wY;rw[AR X0,AR Y0] at C;refine Ev.bind C ?_;by_cases h1:X=Y
   · rw[if_pos h1]
     exact Ev.AK (KZ.2 h1) (Ev.same rfl)
   · rw[if_neg h1]
     refine Ev.AM (λk=>h1 (KZ.1 k)) ?_;by_cases h2:X>Y
     · rw[if_pos h2]
       refine Ev.AK (Ns.2 h2) ?_;have D:=HJ wX wY (by omega) (by omega) (by rw[AR X0,AR Y0];omega);rw[AR X0,AR Y0] at D;have:=Bq (show X-Y<=X by omega);exact Ev.bind D (Ev.bind (OF _ _ (by omega) (by omega)) (Ev.same rfl))
     · rw[if_neg h2]
       refine Ev.AM (λk=>h2 (Ns.1 k)) ?_;have D:=HJ wY wX (by omega) (by omega) (by rw[AR X0,AR Y0];omega);rw[AR X0,AR Y0] at D;have:=Bq (show Y-X<=Y by omega);exact Ev.bind D (Ev.bind (OF _ _ (by omega) (by omega)) (Ev.same rfl))
theorem GN {a b:Int} (ha:U a) (hb:U b):Ev (λk=>CM.f k a b) (QM a b):=by
 refine Ev.AP (CO ha) (Ev.AP (CO hb) ?_);have j0 : ∀t:Bool,(t=true↔((fk a=4\/fk b=4)\/(fk a=3/\fk b=3/\a≠b)))->Ev (λk=>CM.j0 k a b (fk a) (fk b) t) (QM a b):=by
  intro t ht;refine Ev.step (λk=>CM.j0.eq_2 ..) ?_;unfold QM;by_cases h1:fk a=4\/fk b=4
  · rw[if_pos h1]
    exact Ev.AK (ht.2 (.inl h1)) (Ev.AP HI (Ev.same rfl))
  · rw[if_neg h1]
    by_cases h3:fk a=3/\fk b=3/\a≠b
    · rw[if_pos h3]
      exact Ev.AK (ht.2 (.inr h3)) (Ev.AP HI (Ev.same rfl))
    · rw[if_neg h3]
      refine Ev.AM (λk=>(ht.1 k).elim h1 h3) ?_;by_cases h4:fk a=3
      · rw[if_pos h4]
        exact Ev.AK h4 (Ev.same rfl)
      · rw[if_neg h4]
        refine Ev.AM h4 ?_;by_cases h5:fk b=3
        · rw[if_pos h5]
          exact Ev.AK h5 (Ev.same rfl)
        · rw[if_neg h5]
          exact Ev.AM h5 (Ev.bind (gD ha hb (I0 (λk=>h1 (.inl k)) h4) (I0 (λk=>h1 (.inr k)) h5)) (Ev.same rfl))
 by_cases h1:fk a=4
 · exact Ev.AK h1 (j0 _ (by simp[h1]))
 · refine Ev.AM h1 ?_
   by_cases h2:fk b=4
   · exact Ev.AK h2 (j0 _ (by simp[h2]))
   · refine Ev.AM h2 ?_
     by_cases h3:fk a=3
     · refine Ev.AK h3 ?_
       by_cases h4:fk b=3
       · exact Ev.AK h4 (j0 _ (by simp[h3,h4]))
       · exact Ev.AM h4 (j0 _ (by simp[h1,h2,h4]))
     · exact Ev.AM h3 (j0 _ (by simp[h1,h2,h3]))
theorem Ov {a b:Int} (ha:U a) (hb:U b):Ev (λk=>H9.f k a b) (wW a b):=Ev.AP (Yy hb) (Ev.bind (GN ha (AIc b)) (Ev.same rfl))
theorem c9 (x:Int):Go.bits .and .i64 x 1=x%2:=by
 have e:Go.bits .and .i64 x 1=IntKind.i64.wrap (((x%18446744073709551616).toNat &&& 1:Nat):Int):=by
  simp only[Go.bits,BitVec.toNat_and,BitVec.toNat_ofInt];rfl
 rw[e,Nat.and_one_is_mod,IntKind.wrap_i64];omega
theorem QN {b:Int} (h:U b) (hx:fx b≠2047):Ev (λk=>BI.f k b) (fs b,pm b,pe b,true):=by
 have:=J8 h
 rwa [if_neg hx] at this
theorem AGm {m n E:Int} (neg:Bool) (hm0:0<=m) (hm:m<9007199254740992) (hn0:0<=n) (hn:n<9007199254740992) (hE0 : -3000<=E) (hE1:E<=3000) :
 Ev (λk=>(Dr.f m n).bind λkJ=>((BV.f k kJ.1).bind λnQ=>(if nQ=0 then((BE.f k neg kJ.2 E).bind λAS3=>(some AS3)) else(if 0<=(wrap64 (64-nQ)) then(if 0<=nQ then(if(shl .u64 kJ.2 (wrap64 (64-nQ)))=0 then((BE.f k neg (Go.bits .or .u64 (shl .u64 kJ.1 (wrap64 (64-nQ))) (shr .u64 kJ.2 nQ)) (wrap64 (E+nQ))).bind λAS4=>(some AS4)) else((BE.f k neg (Go.bits .or .u64 (Go.bits .or .u64 (shl .u64 kJ.1 (wrap64 (64-nQ))) (shr .u64 kJ.2 nQ)) 1) (wrap64 (E+nQ))).bind λAS5=>(some AS5))) else(none)) else(none))))) (Jq neg (Rd (m*n) E)):=by
 have hP0:0<=m*n:=AUM hm0 hn0;have hP1:m*n<=9007199254740991*9007199254740991:=AWl (by omega) (by omega) hn0 (by omega);refine Ev.AP (KL (a:=m) (b:=n) (by unfold U;omega) (by unfold U;omega)) ?_;dsimp only;generalize m*n=P at *;have hhi:U (P/18446744073709551616):=by unfold U;omega
 refine Ev.bind (Gg hhi) ?_;have b1:=CI (P/18446744073709551616);have b2:bl (P/18446744073709551616)<=42:=BF (n:=42) (by omega);by_cases hz:bl (P/18446744073709551616)=0
 · have h0:P/18446744073709551616=0:=by
    rcases(show P/18446744073709551616=0\/0<P/18446744073709551616 by omega) with h | h
    · exact h
    · have:=C9 h
      omega
   refine Ev.AK hz (Ev.bind (Cg (e:=E) neg (m:=P%18446744073709551616) (by unfold U;omega)) (Ev.same ?_));rw[M8 (by omega) (by omega),show P%18446744073709551616=P by omega]
 · refine Ev.AM hz ?_
   have hbP:bl P=bl (P/18446744073709551616)+64:=by
    have hge:18446744073709551616<=P:=by
     rcases AU1 P 18446744073709551616 with h | h
     · rw[AUo hP0 h] at hz
       exact absurd L8 hz
     · exact h
    exact Tz (x:=P) (s:=64) hge
   have hlt:=F1 (P/18446744073709551616);obtain⟨s,hs⟩ : ∃s:Nat,bl (P/18446744073709551616)=s:=⟨(bl (P/18446744073709551616)).toNat,by omega⟩;rw[hs] at hlt hz b2 hbP ⊢;rw[AUD] at hlt;rw[AG (n:=64-(s:Int)) (by omega) (by omega)];refine Ev.AK (by omega) (Ev.AK (by omega) ?_);rw[M7 _ _ (by omega),M7 _ _ (by omega),WV _ _ (by omega),show(64-(s:Int)).toNat=64-s by omega,AUD,sD _ (show s<=64 by omega)];have hp:=pow_pos s;have Mw:=pow_pos (64-s);have kK:(2:Int)^(64-s)*2^s=18446744073709551616:=(by rw[<-AUZ,show 64-s+s=64 by omega];rfl);have APl:0<=P/18446744073709551616*2^(64-s):=AUM (by omega) (by omega);have ATy:P/18446744073709551616*2^(64-s)+2^(64-s)<=18446744073709551616:=by
    have:=AUL (show P/18446744073709551616+1<=2^s by omega) (AUE Mw);rw[AVt,AVd,AUQ (2^s),kK] at this;exact this
   have AGn:0<=P%18446744073709551616/2^s:=AUX (by omega) (by omega);have AGo:P%18446744073709551616/2^s<2^(64-s):=(by rw[AUg hp,kK];omega);have eP:P=P/18446744073709551616*2^(64-s)*2^s+P%18446744073709551616:=(by rw[AUl,kK];omega);have eq1:P/18446744073709551616*2^(64-s)+P%18446744073709551616/2^s=P/2^s:=by
    conv=>rhs;rw[eP]
    rw[AVr (P/18446744073709551616*2^(64-s)*2^s),Int.add_mul_ediv_right _ _ (by omega),AVr]
   have eq2:P%18446744073709551616%2^s=P%2^s:=by
    conv=>rhs;rw[eP]
    rw[AVr,Int.add_mul_emod_self_right]
   have hor:Go.bits .or .u64 (P/18446744073709551616*2^(64-s)%18446744073709551616) (P%18446744073709551616/2^s)=P/2^s:=by
    rw[AUp APl (by omega),Fx (64-s) _ _ APl (AXN ..) (by omega) AGn AGo (by omega)];exact eq1
   rw[hor,eq2,AG (by omega) (by omega)];have hU:U (P/2^s):=(by unfold U;omega);have APm:0<P:=by
    rcases(show P=0\/0<P by omega) with h | h
    · rw[h,L8] at hbP;omega
    · exact h
   have hst:=APn (M:=P) (e:=E) (s:=s) APm (by unfold un;omega);have r0:=AUe P (show(2:Int)^s≠0 by omega);by_cases h1:P%2^s=0
   · refine Ev.AK (by rw[h1,AVN]) ?_
     unfold st at hst;rw[if_pos h1] at hst;refine Ev.bind (Cg (e:=E+s) neg hU) (Ev.same ?_);rw[M8 (by omega) (by omega),hst]
   · refine Ev.AM ?_ ?_
     · have:=AU3 Mw (show 0<P%2^s by omega)
       omega
     · unfold st at hst
       rw[if_neg h1] at hst;rw[sG hU];refine Ev.bind (Cg (e:=E+s) neg (m:=P/2^s/2*2+1) (by unfold U at *;omega)) (Ev.same ?_);rw[M8 (by omega) (by omega),hst]
theorem Ec {a b:Int} (ha:U a) (hb:U b):Ev (λk=>Aq.f k a b) (NU a b):=by
 refine Ev.AP (CZ ha) (Ev.AP (CZ hb) (Ev.AP (D3 ha) (Ev.AP (D3 hb) ?_)));have eb:(!(fs a==fs b))=(fs a !=fs b):=rfl;rw[eb];generalize hneg:(fs a !=fs b)=neg;have hF:NU a b=if fk a=4\/fk b=4\/(fk a=3/\fk b=0)\/(fk a=0/\fk b=3) then gB else if fk a=3\/fk b=3 then Jq neg YC else Jq neg (Rd (pm a*pm b) (pe a+pe b)):=by
  unfold NU;rw[hneg]
 have j2 : ∀t:Bool,(fk a≠4/\fk b≠4)->(fk a=3\/fk b=3)->(t=true↔(fk a=0\/fk b=0))->Ev (λk=>Aq.j2 k neg t) (NU a b):=by
  intro t h4 h3 ht;refine Ev.step (λk=>Aq.j2.eq_2 ..) ?_;rw[hF];by_cases h:fk a=0\/fk b=0
  · have hc:fk a=4\/fk b=4\/(fk a=3/\fk b=0)\/(fk a=0/\fk b=3):=by omega
    rw[if_pos hc];exact Ev.AK (ht.2 h) (Ev.AP FQ (Ev.same rfl))
  · rw[if_neg (show¬(fk a=4\/fk b=4\/(fk a=3/\fk b=0)\/(fk a=0/\fk b=3)) by omega),if_pos h3]
    exact Ev.AM (λk=>h (ht.1 k)) (Ev.AP (HG neg) (Ev.same rfl))
 have j1 : ∀t:Bool,(fk a≠4/\fk b≠4)->(t=true↔(fk a=3\/fk b=3))->Ev (λk=>Aq.j1 k a b (fk a) (fk b) neg t) (NU a b):=by
  intro t h4 ht;refine Ev.step (λk=>Aq.j1.eq_2 ..) ?_;by_cases h:fk a=3\/fk b=3
  · refine Ev.AK (ht.2 h) ?_
    by_cases h0:fk a=0
    · exact Ev.AK h0 (j2 _ h4 h (by simp[h0]))
    · exact Ev.AM h0 (j2 _ h4 h (by simp[h0]))
  · refine Ev.AM (λk=>h (ht.1 k)) ?_
    have fa:fx a≠2047:=I0 h4.1 (λk=>h (.inl k));have fb:fx b≠2047:=I0 h4.2 (λk=>h (.inr k));refine Ev.bind (QN ha fa) (Ev.bind (QN hb fb) ?_);have a1:=CP a;have a2:=Ct a;have b1:=CP b;have b2:=Ct b;dsimp only;rw[AG (n:=pe a+pe b) (by omega) (by omega)];rw[hF,if_neg (show¬(fk a=4\/fk b=4\/(fk a=3/\fk b=0)\/(fk a=0/\fk b=3)) by omega),if_neg h];exact AGm neg a1.1 a1.2 b1.1 b1.2 (by omega) (by omega)
 have j0 : ∀t:Bool,(t=true↔(fk a=4\/fk b=4))->Ev (λk=>Aq.j0 k a b (fk a) (fk b) neg t) (NU a b):=by
  intro t ht;refine Ev.step (λk=>Aq.j0.eq_2 ..) ?_;by_cases h:fk a=4\/fk b=4
  · refine Ev.AK (ht.2 h) (Ev.AP FQ (Ev.same ?_))
    have hc:fk a=4\/fk b=4\/(fk a=3/\fk b=0)\/(fk a=0/\fk b=3):=(by omega);rw[hF,if_pos hc]
  · refine Ev.AM (λk=>h (ht.1 k)) ?_
    by_cases h3:fk a=3
    · exact Ev.AK h3 (j1 _ (by omega) (by simp[h3]))
    · exact Ev.AM h3 (j1 _ (by omega) (by simp[h3]))
 by_cases h:fk a=4
 · exact Ev.AK h (j0 _ (by simp[h]))
 · exact Ev.AM h (j0 _ (by simp[h]))
theorem T5 (neg:Bool):Ev (λk=>GK.f k neg) (Jq neg 0):=by
 refine Ev.bind (K5 neg (m:=0) (e:=0) (by unfold U;omega) (by omega) (by omega)) (Ev.same ?_);rw[Yw]
theorem xD {m:Int} (h0:0<m) (h1:m<9007199254740992):4611686018427387904<=m*2^(63-bl m).toNat/\m*2^(63-bl m).toNat<9223372036854775808/\9223372036854775808<=m*2^(64-bl m).toNat/\m*2^(64-bl m).toNat<18446744073709551616:=by
 have b2:bl m<=53:=BF (n:=53) (by omega);have t:=AGp h0 (by omega);have e:m*2^(64-bl m).toNat=m*2^(63-bl m).toNat*2:=by
  rw[show(64-bl m).toNat=(63-bl m).toNat+1 by omega,AUY,AUl]
 rw[e] at t ⊢;omega
theorem T6 {a b:Int} (ha:U a) (hb:U b):Ev (λk=>Bj.f k a b) (fdiv a b):=by
 refine Ev.AP (CZ ha) (Ev.AP (CZ hb) (Ev.AP (D3 ha) (Ev.AP (D3 hb) ?_)));have eb:(!(fs a==fs b))=(fs a !=fs b):=rfl;rw[eb];generalize hneg:(fs a !=fs b)=neg;have hF:fdiv a b=if fk a=4\/fk b=4\/(fk a=3/\fk b=3)\/(fk a=0/\fk b=0) then gB else if fk a=3\/fk b=0 then Jq neg YC else if fk a=0\/fk b=3 then Jq neg 0 else Jq neg (qd (pm a) (pe a) (pm b) (pe b)):=by
  unfold fdiv;rw[hneg]
 have j1 : ∀t:Bool,¬(fk a=4\/fk b=4\/(fk a=3/\fk b=3)\/(fk a=0/\fk b=0))->(t=true↔(fk a=3\/fk b=0))->Ev (λk=>Bj.j1 k a b (fk a) (fk b) neg t) (fdiv a b):=by
  intro t h4 ht;refine Ev.step (λk=>Bj.j1.eq_2 ..) ?_;rw[hF,if_neg h4];by_cases h:fk a=3\/fk b=0
  · rw[if_pos h]
    exact Ev.AK (ht.2 h) (Ev.AP (HG neg) (Ev.same rfl))
  · rw[if_neg h]
    refine Ev.AM (λk=>h (ht.1 k)) ?_;by_cases h1:fk a=0
    · rw[if_pos (.inl h1)]
      exact Ev.AK h1 (Ev.bind (T5 neg) (Ev.same rfl))
    · refine Ev.AM h1 ?_
      by_cases h2:fk b=3
      · rw[if_pos (.inr h2)]
        exact Ev.AK h2 (Ev.bind (T5 neg) (Ev.same rfl))
      · rw[if_neg (by omega)]
        have fa:fx a≠2047:=I0 (by omega) (by omega);have fb:fx b≠2047:=I0 (by omega) (by omega);have za:pm a≠0:=λk=>h1 ((Oo a).2.2.2.1.2 ⟨fa,k⟩)
        have zb:pm b≠0:=λk=>h (.inr ((Oo b).2.2.2.1.2 ⟨fb,k⟩))
        refine Ev.AM h2 (Ev.bind (QN ha fa) (Ev.bind (QN hb fb) ?_));have a1:=CP a;have a2:=Ct a;have b1:=CP b;have b2:=Ct b;have na:=CI (pm a);have nb:=CI (pm b);have ba:bl (pm a)<=53:=BF (n:=53) (by omega);have bb:bl (pm b)<=53:=BF (n:=53) (by omega);have ta:=xD (m:=pm a) (by omega) a1.2;have tb:=xD (m:=pm b) (by omega) b1.2;have a3 : -1074<=pe a/\pe a<=972:=⟨a2.1,a2.2.1⟩;have b3 : -1074<=pe b/\pe b<=972:=⟨b2.1,b2.2.1⟩;dsimp only;refine Ev.bind (Gg (x:=pm a) (by unfold U;omega)) (Ev.bind (Gg (x:=pm b) (by unfold U;omega)) ?_);clear a2 b2 hF h4 ht h h1 h2 fa fb;unfold qd;generalize pm a=m at *;generalize pm b=n at *;generalize pe a=e at *;generalize pe b=f at *;rw[AG (n:=63-bl m) (by omega) (by omega),AG (n:=64-bl n) (by omega) (by omega)];refine Ev.AK (by omega) (Ev.AK (by omega) ?_);rw[M7 _ _ (by omega),M7 _ _ (by omega),AUp (by omega) (by omega),AUp (by omega) (by omega)];rw[AG (n:=e-(63-bl m)) (by omega) (by omega),AG (n:=e-(63-bl m)-f) (by omega) (by omega),AG (n:=e-(63-bl m)-f+(64-bl n)) (by omega) (by omega),AG (n:=e-(63-bl m)-f+(64-bl n)-64) (by omega) (by omega)];have eE:e-(63-bl m)-f+(64-bl n)-64=e-f+bl m-bl n-63:=(by omega);have eE2:e-f+bl m-bl n-64=e-f+bl m-bl n-63-1:=(by omega);have hE : -5000<=e-f+bl m-bl n-63/\e-f+bl m-bl n-63<=5000:=(by omega);rw[eE,eE2];generalize e-f+bl m-bl n-63=E at *;generalize m*2^(63-bl m).toNat=M at *;generalize n*2^(64-bl n).toNat=N at *;have D:=Xb (hi:=M) (lo:=0) (d:=N) (by omega) (by omega) (by omega) (by unfold U;omega);rw[AVM] at D;have q0:4611686018427387904<=M*18446744073709551616/N:=(by rw[AU8 (by omega)];omega);have q1:M*18446744073709551616/N<18446744073709551616:=(by rw[AUg (by omega)];omega);refine Ev.bind D ?_;dsimp only;generalize M*18446744073709551616/N=q at *;generalize M*18446744073709551616%N=r at *;by_cases hr:r=0
        · rw[if_pos hr]
          refine Ev.AK hr (Ev.bind (Cg (e:=E) neg (m:=q) (by unfold U;omega)) (Ev.same ?_));rw[M8 (by omega) (by omega)]
        · rw[if_neg hr]
          refine Ev.AM hr ?_;rw[sG (by unfold U;omega)];refine Ev.bind (Cg (e:=E) neg (m:=q/2*2+1) (by unfold U;omega)) (Ev.same ?_);rw[M8 (by omega) (by omega),AId q0]
 have j0 : ∀t:Bool,(t=true↔(fk a=4\/fk b=4\/(fk a=3/\fk b=3)\/(fk a=0/\fk b=0)))->Ev (λk=>Bj.j0 k a b (fk a) (fk b) neg t) (fdiv a b):=by
  intro t ht;refine Ev.step (λk=>Bj.j0.eq_2 ..) ?_;by_cases h:fk a=4\/fk b=4\/(fk a=3/\fk b=3)\/(fk a=0/\fk b=0)
  · refine Ev.AK (ht.2 h) (Ev.AP FQ (Ev.same ?_))
    rw[hF,if_pos h]
  · refine Ev.AM (λk=>h (ht.1 k)) ?_
    by_cases h3:fk a=3
    · exact Ev.AK h3 (j1 _ h (by simp[h3]))
    · exact Ev.AM h3 (j1 _ h (by simp[h3]))
 by_cases h:fk a=4
 · exact Ev.AK h (j0 _ (by simp[h]))
 · refine Ev.AM h ?_
   by_cases h2:fk b=4
   · exact Ev.AK h2 (j0 _ (by simp[h2]))
   · refine Ev.AM h2 ?_
     by_cases h3:fk a=fk b
     · refine Ev.AK h3 ?_
       by_cases h5:fk a=3
       · exact Ev.AK h5 (j0 _ (by simp;omega))
       · exact Ev.AM h5 (j0 _ (by simp;omega))
     · exact Ev.AM h3 (j0 _ (by simp;omega))
theorem AIn {t hi:Int} (h0:0<=t) (h1:t<18446744073709551616) (hhi:U hi):(t*t/18446744073709551616<hi\/(t*t/18446744073709551616=hi/\t*t%18446744073709551616=0))↔t*t<=hi*18446744073709551616:=by
 have:=AUM h0 h0;generalize t*t=q at *;omega
theorem sH {hi R:Int} (hhi:U hi) (hR:KK (hi*18446744073709551616) R) (hR1:R<18446744073709551616) (j:Nat) (hj:j<=64) : ∀r:Int,0<=r->r%2^j=0->r<=R->R<r+2^j->Ev (λk=>CS.l0 k hi r (2^j/2)) (R,decide (R*R=hi*18446744073709551616)):=by
 induction j with
 | zero =>
   intro r h0 hm h1 h2;rw[AUW] at h2;obtain rfl:r=R:=by omega
   refine Ev.step (λk=>CS.l0.eq_2 ..) (Ev.AM (by decide) ?_);refine Ev.AP (KL (a:=r) (b:=r) (by unfold U;omega) (by unfold U;omega)) ?_;dsimp only;have:=AUM h0 h0;have hle:=hR.2.1;generalize r*r=q at *;by_cases h:q/18446744073709551616=hi
   · refine Ev.AK h (Ev.same ?_)
     congr 2
     by_cases h3:q%18446744073709551616=0
     · rw[h3,decide_eq_true (by omega)];rfl
     · rw[decide_eq_false (by omega),beq_eq_false_iff_ne]
       exact h3
   · refine Ev.AM h (Ev.same ?_)
     rw[decide_eq_false (by omega)]
 | succ j ih =>
   intro r h0 hm h1 h2;have hp:=pow_pos j;have e2:(2:Int)^(j+1)/2=2^j:=(by rw[AUY];omega);have ATe:(2:Int)^j<=2^63:=Ar (by omega);rw[e2];refine Ev.step (λk=>CS.l0.eq_2 ..) (Ev.AK hp ?_);rw[AUY] at h2;have hdvd:r+2^j<18446744073709551616:=by
    have hm':=AUV r (2^(j+1));rw[hm,AVM] at hm';have OV:=pow_pos (j+1);have kK:(2:Int)^(j+1)*2^(63-j)=18446744073709551616:=(by rw[<-AUZ,show j+1+(63-j)=64 by omega];rfl);have hq:r/2^(j+1)<2^(63-j):=(by rw[AUg OV,AUQ,kK];omega);have:=AUb (show r/2^(j+1)+1<=2^(63-j) by omega) (AUE OV);rw[kK,AVp,AUk,hm',AUY] at this;omega
   rw[Fx (j+1) _ _ h0 hm (by omega) (by omega) (by rw[AUY];omega) (by omega)];refine Ev.AP (KL (a:=r+2^j) (b:=r+2^j) (by unfold U;omega) (by unfold U;omega)) ?_;dsimp only;have ht:=AIn (t:=r+2^j) (by omega) hdvd hhi;have hm2:(r+2^j)%2^j=0:=by
    have hm':=AUV r (2^(j+1));rw[hm,AVM,AUY,AUl] at hm';rw[<-hm',AXD];exact AVe ..
   have hm3:r%2^j=0:=by
    have hm':=AUV r (2^(j+1));rw[hm,AVM,AUY,AUl] at hm';rw[<-hm'];exact AVe ..
   have yes:(r+2^j)*(r+2^j)<=hi*18446744073709551616->Ev (λk=>CS.l0 k hi (r+2^j) (2^j/2)) (R,decide (R*R=hi*18446744073709551616)):=by
    intro h;have hlt:r+2^j<R+1:=Fq (by have:=hR.1;omega) (by have:=hR.2.2;omega);exact ih (by omega) (r+2^j) (by omega) hm2 (by omega) (by omega)
   have no : ¬(r+2^j)*(r+2^j)<=hi*18446744073709551616->Ev (λk=>CS.l0 k hi r (2^j/2)) (R,decide (R*R=hi*18446744073709551616)):=by
    intro h;have hlt:R<r+2^j:=Fq (by omega) (by have:=hR.2.1;omega);exact ih (by omega) r h0 hm3 h1 hlt
   by_cases c1:(r+2^j)*(r+2^j)/18446744073709551616<hi
   · exact Ev.AK c1 (yes (ht.1 (.inl c1)))
   · refine Ev.AM c1 ?_
     by_cases c2:(r+2^j)*(r+2^j)/18446744073709551616=hi
     · refine Ev.AK c2 ?_
       by_cases c3:(r+2^j)*(r+2^j)%18446744073709551616=0
       · exact Ev.AK c3 (yes (ht.1 (.inr ⟨c2,c3⟩)))
       · exact Ev.AM c3 (no (λk=>(ht.2 k).elim c1 (λx=>c3 x.2)))
     · exact Ev.AM c2 (no (λk=>(ht.2 k).elim c1 (λx=>c2 x.1)))
theorem sI {hi R:Int} (hhi:U hi) (hR:KK (hi*18446744073709551616) R):Ev (λk=>CS.f k hi) (R,decide (R*R=hi*18446744073709551616)):=by
 have hR1:R<18446744073709551616:=Fq (by omega) (by have:=hR.2.1;unfold U at hhi;omega);exact sH hhi hR hR1 64 (by omega) 0 (by omega) (by decide) hR.1 (by omega)
theorem WY {b:Int} (h:U b) (hk:fk b=4\/(fk b≠0/\fs b=true)):Ev (λk=>Ca.f k b) gB:=by
 refine Ev.AP (CZ h) ?_;by_cases h4:fk b=4
 · exact Ev.AK h4 (Ev.AP FQ (Ev.same rfl))
 · have hs:=(hk.resolve_left h4)
   refine Ev.AM h4 ?_;by_cases h3:fk b=3
   · exact Ev.AK h3 (Ev.AP (D3 h) (Ev.AK hs.2 (Ev.AP FQ (Ev.same rfl))))
   · refine Ev.AM h3 (Ev.AM hs.1 ?_)
     exact Ev.AP (D3 h) (Ev.AK hs.2 (Ev.AP FQ (Ev.same rfl)))
theorem Sq {b:Int} (h:U b) (hk:fk b=0\/(fk b=3/\fs b=false)):Ev (λk=>Ca.f k b) b:=by
 refine Ev.AP (CZ h) (Ev.AM (by omega) ?_);by_cases h3:fk b=3
 · have hs:=hk.resolve_left (by omega)
   exact Ev.AK h3 (Ev.AP (D3 h) (Ev.AM (by rw[hs.2];decide) (Ev.same rfl)))
 · exact Ev.AM h3 (Ev.AK (by omega) (Ev.same rfl))
theorem ACq {m e w:Int} {up:Nat} (h0:0<m) (hm:m<9007199254740992) (he0 : -1074<=e) (he1:e<=971) (hup:(up:Int)=126-bl m\/(up:Int)=125-bl m) (hpar:(e-up)%2=0) (hw:AAk m e w):Ev (λk=>Ca.j0 k m e (up:Int)) w:=by
 have b1:=C9 h0;have b2:bl m<=53:=BF (n:=53) hm;have l1:=F1 m;have l2:=Sp h0;refine Ev.step (λk=>Ca.j0.eq_2 ..) ?_;obtain⟨t,ht⟩ : ∃t:Nat,up=t+64:=⟨up-64,by omega⟩;subst ht;have hp:=pow_pos t;have et:wrap64 (((t+64:Nat):Int)-64)=t:=by rw[AG (by omega) (by omega)];omega
 rw[et];refine Ev.AK (by omega) ?_;have hlt:m*2^t<2^62:=by
  have:=AUw l1 hp;rw[<-AUZ] at this;have:=Ar (a:=(bl m).toNat+t) (b:=62) (by omega);omega
 have hge:2^60<=m*2^t:=by
  have:=AUL l2 (AUE hp);rw[<-AUZ] at this;have:=Ar (a:=60) (b:=(bl m-1).toNat+t) (by omega);omega
 rw[M7 _ _ (by omega),AUD,AUp (by omega) (by omega)];have eX:m*2^t*18446744073709551616=m*2^(t+64):=by rw[AUZ,<-AUl];rfl
 obtain⟨R,hR⟩:=iC (A:=m*2^(t+64)) (by rw[<-eX];omega);have AJ9:=sI (hi:=m*2^t) (R:=R) (by unfold U;omega) (by rw[eX];exact hR);rw[eX] at AJ9;refine Ev.bind AJ9 ?_;dsimp only;have hR0:=hR.1;have hR2:=hR.2.2;have hR1:=hR.2.1;have AS6:(1073741824*1073741824:Int)*4294967296<=m*2^(t+64):=by rw[<-eX];omega
 have APo:(18014398509481984:Int)<=R:=by
  have:(18014398509481984:Int)<R+1:=Fq (by omega) (by omega);omega
 have AGq:R<18446744073709551616:=Fq (by omega) (by rw[<-eX] at hR1;omega);obtain⟨c,hc⟩ : ∃c:Int,e-((t+64:Nat):Int)=2*c:=⟨(e-((t+64:Nat):Int))/2,by omega⟩;have eE:wrap64 (Int.tdiv (wrap64 (e-((t+64:Nat):Int))) 2)=c:=by
  rw[AG (n:=e-((t+64:Nat):Int)) (by omega) (by omega),hc,AXO _ (by decide),AG (by omega) (by omega)]
 rw[eE];have hwR:w=Rd (sv (m*2^(t+64)) R) (c-1):=cz hw ⟨t+64,c-1,R,by omega,hR,by omega,rfl⟩;have xE:=AIl (c:=c) hR APo;rw[<-hwR] at xE;by_cases hx:R*R=m*2^(t+64)
 · rw[if_pos hx] at xE
   refine Ev.AK (decide_eq_true hx) (Ev.bind (Cg (e:=c) false (m:=R) (by unfold U;omega)) (Ev.same ?_));rw[M8 (by omega) (by omega),xE];rfl
 · rw[if_neg hx] at xE
   refine Ev.AM (by rw[decide_eq_false hx];decide) ?_;rw[sG (by unfold U;omega)];refine Ev.bind (Cg (e:=c) false (m:=R/2*2+1) (by unfold U;omega)) (Ev.same ?_);rw[M8 (by omega) (by omega),xE];rfl
theorem sJ {b w:Int} (h:U b) (h4:fk b≠4) (h3:fk b≠3) (h0:fk b≠0) (hs:fs b=false) (hw:AAk (pm b) (pe b) w):Ev (λk=>Ca.f k b) w:=by
 refine Ev.AP (CZ h) (Ev.AM h4 (Ev.AM h3 (Ev.AM h0 ?_)));refine Ev.AP (D3 h) (Ev.AM (by rw[hs];decide) ?_);have hf:=I0 h4 h3;refine Ev.bind (QN h hf) ?_;have a1:=CP b;have a2:=Ct b;have hz:pm b≠0:=λk=>h0 ((Oo b).2.2.2.1.2 ⟨hf,k⟩)
 have a3:=a2.2.2.1 hf;dsimp only;refine Ev.bind (Gg (x:=pm b) (by unfold U;omega)) ?_;have b1:=C9 (x:=pm b) (by omega);have b2:bl (pm b)<=53:=BF (n:=53) (by omega);obtain⟨up,hup⟩ : ∃up:Nat,(up:Int)=126-bl (pm b):=⟨(126-bl (pm b)).toNat,by omega⟩;rw[AG (n:=126-bl (pm b)) (by omega) (by omega),<-hup,c9,AG (n:=pe b-(up:Int)) (by omega) (by omega)];by_cases hp:(pe b-(up:Int))%2=0
 · exact Ev.AK hp (ACq (by omega) a1.2 a2.1 a3 (.inl hup) hp hw)
 · refine Ev.AM hp ?_
   have e1:wrap64 ((up:Int)-1)=((up-1:Nat):Int):=(by rw[AG (by omega) (by omega)];omega);rw[e1];exact ACq (by omega) a1.2 a2.1 a3 (.inr (by omega)) (by omega) hw
theorem xF (x:Int):Int.tmod x 2=0↔x%2=0:=⟨λh=>Int.emod_eq_zero_of_dvd (Int.dvd_of_tmod_eq_zero h),λh=>Int.tmod_eq_zero_of_dvd (Int.dvd_of_emod_eq_zero h)⟩
theorem WZ {m e w:Int} {up:Nat} (h0:0<m) (hm:m<9007199254740992) (he0 : -1074<=e) (he1:e<=971) (hup:160<=up) (ATz:up<=161) (hpar:(e-up)%2=0) (hw:AAk m e w):Ev (λk=>Bl.j1 k m e (up:Int)) w:=by
 refine Ev.step (λk=>Bl.j1.eq_2 ..) ?_;have S:=C3 (a:= [m]) ⟨Gf (by unfold U;omega),by simp⟩ (by simp) (up:Int);rw[Fp,K6 (by omega),AUD] at S;refine Ev.bind S ?_;have hp:=pow_pos up;have hX0:0<=m*2^up:=AUM (by omega) (by omega);have AS2:(1329227995784915872903807060280344576:Int)<=m*2^up:=by
  have a1:=Ar (a:=120) (b:=up) (by omega);have:=AUL (show 1<=m by omega) (AUE hp);have e1:(2:Int)^120=1329227995784915872903807060280344576:=by decide
  omega
 have bX:bl (m*2^up)<=53+161:=by
  have b1:bl m<=53:=BF (n:=53) (by omega);have:=Po h0 up;omega
 obtain⟨R,hR⟩:=iC hX0;have lX:=AN (m*2^up);have T:=sK (a:=dg (m*2^up)) (Av (by omega)) (by omega) (R:=R) (by rw[AR hX0];exact hR);refine Ev.bind T ?_;have hR0:=hR.1;have AS7:R*R<=m*2^up:=hR.2.1;have hRR:R<=R*R:=by
  rcases(show R=0\/1<=R by omega) with h | h
  · rw[h];decide
  · have:=AUL h hR0
    omega
 have bR:=Bq (show R<=m*2^up by omega);have bRR:=Bq AS7;have lR:=AN R;have M:=FP (a:=dg R) (b:=dg R) (Av (by omega)) (Av (by omega)) (by omega) (by omega);rw[AR hR0] at M;refine Ev.bind M ?_;have C:=GM (a:=dg (R*R)) (b:=dg (m*2^up)) (Av (by omega)) (Av (by omega));rw[AR (by omega),AR hX0] at C;refine Ev.bind C ?_;obtain⟨c,hc⟩ : ∃c:Int,e-(up:Int)=2*c:=⟨(e-(up:Int))/2,by omega⟩;have eE:wrap64 (Int.tdiv (wrap64 (e-(up:Int))) 2)=c:=by
  rw[AG (n:=e-(up:Int)) (by omega) (by omega),hc,AXO _ (by decide),AG (by omega) (by omega)]
 rw[eE];have AS6:(18014398509481984:Int)<=R:=by
  have:(18014398509481984:Int)<R+1:=Fq (by omega) (by have:=hR.2.2;omega);omega
 have MO:=RE false (l:=dg R) (Av (by omega)) (by omega) c (Gt (R*R) (m*2^up) !=0);rw[AR hR0,M8 (by omega) (by omega)] at MO;refine Ev.bind MO (Ev.same ?_);have hwR:w=Rd (sv (m*2^up) R) (c-1):=cz hw ⟨up,c-1,R,by omega,hR,by omega,rfl⟩;rw[hwR];unfold sv;by_cases hx:R*R=m*2^up
 · rw[if_pos hx]
   have:(Gt (R*R) (m*2^up) !=0)=false:=by rw[bne_eq_false_iff_eq];exact KZ.2 hx
   rw[this];have:=Iy (show 0<R by omega) c 1;rw[AVh,AUQ] at this;show some (Jq false (Rd R c))=some (Rd (2*R) (c-1));rw[<-this];rfl
 · rw[if_neg hx]
   have:(Gt (R*R) (m*2^up) !=0)=true:=by rw[bne_iff_ne];exact λk=>hx (KZ.1 k)
   rw[this];rfl
theorem Wa {b:Int} (h:U b) (hk:fk b=4\/(fk b≠0/\fs b=true)):Ev (λk=>Bl.f k b) gB:=by
 refine Ev.AP (CO h) (Ev.AM (by omega) ?_);by_cases h4:fk b=4
 · exact Ev.AK h4 (Ev.step (λk=>Bl.j0.eq_2 ..) (Ev.AK rfl (Ev.AP HI (Ev.same rfl))))
 · have hs:=(hk.resolve_left h4)
   exact Ev.AM h4 (Ev.AP (Cs h) (Ev.step (λk=>Bl.j0.eq_2 ..) (Ev.AK hs.2 (Ev.AP HI (Ev.same rfl)))))
theorem Sr {b:Int} (h:U b) (hk:fk b=0\/(fk b=3/\fs b=false)):Ev (λk=>Bl.f k b) b:=by
 refine Ev.AP (CO h) ?_;by_cases h0:fk b=0
 · exact Ev.AK h0 (Ev.same rfl)
 · have hs:=hk.resolve_left h0
   refine Ev.AM h0 (Ev.AM (by omega) (Ev.AP (Cs h) (Ev.step (λk=>Bl.j0.eq_2 ..) ?_)));exact Ev.AM (by rw[hs.2];decide) (Ev.AK hs.1 (Ev.same rfl))
theorem sL {b w:Int} (h:U b) (h4:fk b≠4) (h3:fk b≠3) (h0:fk b≠0) (hs:fs b=false) (hw:AAk (pm b) (pe b) w):Ev (λk=>Bl.f k b) w:=by
 refine Ev.AP (CO h) (Ev.AM h0 (Ev.AM h4 (Ev.AP (Cs h) ?_)));refine Ev.step (λk=>Bl.j0.eq_2 ..) (Ev.AM (by rw[hs];decide) (Ev.AM h3 (Ev.AP (EP h) ?_)));have hf:=I0 h4 h3;have a1:=CP b;have a2:=Ct b;have hz:pm b≠0:=λk=>h0 ((Oo b).2.2.2.1.2 ⟨hf,k⟩)
 have a3:=a2.2.2.1 hf;dsimp only;rw[AG (n:=pe b-160) (by omega) (by omega)];by_cases hp:(pe b-160)%2=0
 · exact Ev.AK ((xF _).2 hp) (WZ (up:=160) (by omega) a1.2 a2.1 a3 (by omega) (by omega) hp hw)
 · exact Ev.AM (λk=>hp ((xF _).1 k)) (WZ (up:=161) (by omega) a1.2 a2.1 a3 (by omega) (by omega) (by omega) hw)
theorem Ed {a b:Int} (ha:U a) (hb:U b):Ev (λk=>BQ.f k a b) (NU a b):=by
 refine Ev.AP (CO ha) (Ev.AP (CO hb) (Ev.AP (Cs ha) (Ev.AP (Cs hb) ?_)));have eb:(!(fs a==fs b))=(fs a !=fs b):=rfl;rw[eb];generalize hneg:(fs a !=fs b)=neg;have hF:NU a b=if fk a=4\/fk b=4\/(fk a=3/\fk b=0)\/(fk a=0/\fk b=3) then gB else if fk a=3\/fk b=3 then Jq neg YC else Jq neg (Rd (pm a*pm b) (pe a+pe b)):=by
  unfold NU;rw[hneg]
 have j1 : ∀t:Bool,¬(fk a=4\/fk b=4\/(fk a=3/\fk b=0)\/(fk a=0/\fk b=3))->(t=true↔(fk a=3\/fk b=3))->Ev (λk=>BQ.j1 k a b neg t) (NU a b):=by
  intro t h4 ht;refine Ev.step (λk=>BQ.j1.eq_2 ..) ?_;rw[hF,if_neg h4];by_cases h:fk a=3\/fk b=3
  · rw[if_pos h]
    exact Ev.AK (ht.2 h) (Ev.AP (HH neg) (Ev.same rfl))
  · rw[if_neg h]
    refine Ev.AM (λk=>h (ht.1 k)) (Ev.AP (EP ha) (Ev.AP (EP hb) ?_));have a1:=CP a;have a2:=Ct a;have b1:=CP b;have b2:=Ct b;have a3 : -1074<=pe a/\pe a<=972:=⟨a2.1,a2.2.1⟩;have b3 : -1074<=pe b/\pe b<=972:=⟨b2.1,b2.2.1⟩;clear a2 b2 hF h4 ht h;dsimp only;generalize pm a=m at *;generalize pm b=n at *;generalize pe a=e at *;generalize pe b=f at *;have M:=FP (a:= [m]) (b:= [n]) ⟨Gf (by unfold U;omega),by simp⟩ ⟨Gf (by unfold U;omega),by simp⟩ (by simp) (by simp);rw[Fp,Fp] at M;have hP0:0<=m*n:=AUM a1.1 b1.1;have bP:=Dt a1.1 b1.1;have ba:bl m<=53:=BF (n:=53) (by omega);have bb:bl n<=53:=BF (n:=53) (by omega);have lP:=AN (m*n);refine Ev.bind M ?_;rw[AG (n:=e+f) (by omega) (by omega)];have O:=Lf neg (l:=dg (m*n)) (Av (by omega)) (by omega) (e:=e+f) (by omega) (by omega);rw[AR hP0] at O;exact Ev.bind O (Ev.same rfl)
 have j0 : ∀t:Bool,(t=true↔(fk a=4\/fk b=4\/(fk a=3/\fk b=0)\/(fk a=0/\fk b=3)))->Ev (λk=>BQ.j0 k a b (fk a) (fk b) neg t) (NU a b):=by
  intro t ht;refine Ev.step (λk=>BQ.j0.eq_2 ..) ?_;by_cases h:fk a=4\/fk b=4\/(fk a=3/\fk b=0)\/(fk a=0/\fk b=3)
  · refine Ev.AK (ht.2 h) (Ev.AP HI (Ev.same ?_))
    rw[hF,if_pos h]
  · refine Ev.AM (λk=>h (ht.1 k)) ?_
    by_cases h3:fk a=3
    · exact Ev.AK h3 (j1 _ h (by simp[h3]))
    · exact Ev.AM h3 (j1 _ h (by simp[h3]))
 by_cases h:fk a=4
 · exact Ev.AK h (j0 _ (by simp[h]))
 · refine Ev.AM h ?_
   by_cases h2:fk b=4
   · exact Ev.AK h2 (j0 _ (by simp[h2]))
   · refine Ev.AM h2 ?_
     by_cases h3:fk a=3
     · refine Ev.AK h3 ?_
       by_cases h5:fk b=0
       · exact Ev.AK h5 (j0 _ (by simp[h3,h5]))
       · refine Ev.AM h5 (Ev.AM (by omega) (j0 _ (by simp;omega)))
     · refine Ev.AM h3 ?_
       by_cases h5:fk a=0
       · exact Ev.AK h5 (j0 _ (by simp;omega))
       · exact Ev.AM h5 (j0 _ (by simp;omega))
theorem sM {m n E f:Int} (neg:Bool) (hm0:4503599627370496<=m) (hm1:m<9007199254740992) (d:Nat) : ∀n f:Int,0<n->bl n+d=53-> -2000<=E->E<=2000-> -2000<=f-d->f<=2000 ->
 Ev (λk=>Ag.l1 k neg m E n f) (Jq neg (if m*1024*18446744073709551616%(n*2^(64-bl n).toNat)=0 then Rd (m*1024*18446744073709551616/(n*2^(64-bl n).toNat)) (E-(f-d)-63) else Rd (2*(m*1024*18446744073709551616/(n*2^(64-bl n).toNat))+1) (E-(f-d)-64))):=by
 induction d with
 | zero =>
   intro n f hn hb h1 h2 h3 h4;have l1:=F1 n;have l2:=Sp hn;rw[show bl n=53 by omega] at l1 l2 ⊢;rw[show(53:Int).toNat=53 from rfl] at l1;rw[show((53:Int)-1).toNat=52 from rfl] at l2;rw[show((64:Int)-53).toNat=11 from rfl,show(2:Int)^11=2048 from rfl,show f-((0:Nat):Int)=f by omega];refine Ev.step (λk=>Ag.l1.eq_2 ..) (Ev.AM (by omega) ?_);rw[DC (n:=m*1024) (by omega) (by omega),DC (n:=n*2048) (by omega) (by omega)];have D:=xG (hi:=m*1024) (lo:=0) (d:=n*2048) (by omega) (by omega) (by omega) (by unfold U;omega);rw[AVM] at D;have q0:4611686018427387904<=m*1024*18446744073709551616/(n*2048):=(by rw[AU8 (by omega)];omega);have q1:m*1024*18446744073709551616/(n*2048)<18446744073709551616:=(by rw[AUg (by omega)];omega);have r0:=AUe (m*1024*18446744073709551616) (show n*2048≠0 by omega);refine Ev.bind D ?_;dsimp only;generalize m*1024*18446744073709551616/(n*2048)=q at *;generalize m*1024*18446744073709551616%(n*2048)=r at *;rw[AG (n:=E-f) (by omega) (by omega),AG (n:=E-f-63) (by omega) (by omega)];have M:=RE neg (l:= [q]) ⟨Gf (by unfold U;omega),by simp⟩ (by simp) (E-f-63) (decide (r>0));rw[Fp,M8 (by omega) (by omega)] at M;refine Ev.bind M (Ev.same ?_);by_cases hr:r=0
   · rw[if_pos hr,decide_eq_false (by omega)]
     rfl
   · rw[if_neg hr,decide_eq_true (by omega)]
     rw[show E-f-64=E-f-63-1 by omega];rfl
 | succ d ih =>
   intro n f hn hb h1 h2 h3 h4;have l1:=F1 n;have hlt:n<2^52:=by
    have:=Ar (a:=(bl n).toNat) (b:=52) (by omega);omega
   have hs:=Po hn 1;rw[AVh] at hs;refine Ev.step (λk=>Ag.l1.eq_2 ..) (Ev.AK (by omega) ?_);rw[DC (n:=n*2) (by omega) (by omega),AG (n:=f-1) (by omega) (by omega)];have:=ih (n*2) (f-1) (by omega) (by omega) h1 h2 (by omega) (by omega);have e1:n*2*2^(64-bl (n*2)).toNat=n*2^(64-bl n).toNat:=by
    rw[hs,show(64-bl n).toNat=1+(64-(bl n+((1:Nat):Int))).toNat by omega,AUZ,AUl];rfl
   rw[e1,show f-1-(d:Int)=f-((d+1:Nat):Int) by omega] at this;exact this
theorem sN {n f:Int} (neg:Bool) (hn0:0<n) (hn1:n<9007199254740992) (hf0 : -1074<=f) (hf1:f<=1000) (d:Nat) : ∀m e:Int,0<m->bl m+d=53-> -2000<=e-d->e<=1000 ->
 Ev (λk=>Ag.l0 k neg m e n f) (Jq neg (qd m e n f)):=by
 have bn1:=C9 hn0;have bn:bl n<=53:=BF (n:=53) (by omega);induction d with
 | zero =>
   intro m e hm hb h1 h2;have l1:=F1 m;have l2:=Sp hm;rw[show bl m=53 by omega] at l1 l2;rw[show(53:Int).toNat=53 from rfl] at l1;rw[show((53:Int)-1).toNat=52 from rfl] at l2;refine Ev.step (λk=>Ag.l0.eq_2 ..) (Ev.AM (by omega) ?_);have L:=sM (m:=m) (n:=n) (E:=e) (f:=f) neg (by omega) (by omega) (53-bl n).toNat n f hn0 (by omega) (by omega) (by omega) (by omega) (by omega);refine L.WS ?_;unfold qd;rw[show bl m=53 by omega,show((63:Int)-53).toNat=10 from rfl,show(2:Int)^10=1024 from rfl];rw[show e-(f-((53-bl n).toNat:Int))-63=e-f+53-bl n-63 by omega,show e-(f-((53-bl n).toNat:Int))-64=e-f+53-bl n-64 by omega]
 | succ d ih =>
   intro m e hm hb h1 h2;have l1:=F1 m;have hlt:m<2^52:=by
    have:=Ar (a:=(bl m).toNat) (b:=52) (by omega);omega
   have hs:=Po hm 1;rw[AVh] at hs;refine Ev.step (λk=>Ag.l0.eq_2 ..) (Ev.AK (by omega) ?_);rw[DC (n:=m*2) (by omega) (by omega),AG (n:=e-1) (by omega) (by omega)];refine(ih (m*2) (e-1) (by omega) (by omega) (by omega) (by omega)).WS ?_;unfold qd;have e1:m*2*2^(63-bl (m*2)).toNat=m*2^(63-bl m).toNat:=by
    rw[hs,show(63-bl m).toNat=1+(63-(bl m+((1:Nat):Int))).toNat by omega,AUZ,AUl];rfl
   rw[e1,show e-1-f+bl (m*2)-bl n-63=e-f+bl m-bl n-63 by omega,show e-1-f+bl (m*2)-bl n-64=e-f+bl m-bl n-64 by omega]
theorem T7 {a b:Int} (ha:U a) (hb:U b):Ev (λk=>Ag.f k a b) (fdiv a b):=by
 refine Ev.AP (CO ha) (Ev.AP (CO hb) (Ev.AP (Cs ha) (Ev.AP (Cs hb) ?_)));have eb:(!(fs a==fs b))=(fs a !=fs b):=rfl;rw[eb];generalize hneg:(fs a !=fs b)=neg;have hF:fdiv a b=if fk a=4\/fk b=4\/(fk a=3/\fk b=3)\/(fk a=0/\fk b=0) then gB else if fk a=3\/fk b=0 then Jq neg YC else if fk a=0\/fk b=3 then Jq neg 0 else Jq neg (qd (pm a) (pe a) (pm b) (pe b)):=by
  unfold fdiv;rw[hneg]
 have j2 : ∀t:Bool,¬(fk a=4\/fk b=4\/(fk a=3/\fk b=3)\/(fk a=0/\fk b=0))-> ¬(fk a=3\/fk b=0)->(t=true↔(fk a=0\/fk b=3))->Ev (λk=>Ag.j2 k a b neg t) (fdiv a b):=by
  intro t h4 h3 ht;refine Ev.step (λk=>Ag.j2.eq_2 ..) ?_;rw[hF,if_neg h4,if_neg h3];by_cases h:fk a=0\/fk b=3
  · rw[if_pos h]
    exact Ev.AK (ht.2 h) (Ev.AP (EZ neg (by omega) (by omega)) (Ev.same rfl))
  · rw[if_neg h]
    refine Ev.AM (λk=>h (ht.1 k)) (Ev.AP (EP ha) (Ev.AP (EP hb) ?_));have fa:fx a≠2047:=I0 (by omega) (by omega);have fb:fx b≠2047:=I0 (by omega) (by omega);have za:pm a≠0:=λk=>h (.inl ((Oo a).2.2.2.1.2 ⟨fa,k⟩))
    have zb:pm b≠0:=λk=>h3 (.inr ((Oo b).2.2.2.1.2 ⟨fb,k⟩))
    have a1:=CP a;have a2:=Ct a;have b1:=CP b;have b2:=Ct b;have a3 : -1074<=pe a/\pe a<=972:=⟨a2.1,a2.2.1⟩;have b3 : -1074<=pe b/\pe b<=972:=⟨b2.1,b2.2.1⟩;have ba:bl (pm a)<=53:=BF (n:=53) (by omega);have ba1:=C9 (x:=pm a) (by omega);clear a2 b2;exact sN neg (by omega) b1.2 (by omega) (by omega) (53-bl (pm a)).toNat (pm a) (pe a) (by omega) (by omega) (by omega) (by omega)
 have j1 : ∀t:Bool,¬(fk a=4\/fk b=4\/(fk a=3/\fk b=3)\/(fk a=0/\fk b=0))->(t=true↔(fk a=3\/fk b=0))->Ev (λk=>Ag.j1 k a b (fk a) (fk b) neg t) (fdiv a b):=by
  intro t h4 ht;refine Ev.step (λk=>Ag.j1.eq_2 ..) ?_;by_cases h:fk a=3\/fk b=0
  · refine Ev.AK (ht.2 h) (Ev.AP (HH neg) (Ev.same ?_))
    rw[hF,if_neg h4,if_pos h]
  · refine Ev.AM (λk=>h (ht.1 k)) ?_
    by_cases h1:fk a=0
    · exact Ev.AK h1 (j2 _ h4 h (by simp[h1]))
    · exact Ev.AM h1 (j2 _ h4 h (by simp[h1]))
 have j0 : ∀t:Bool,(t=true↔(fk a=4\/fk b=4\/(fk a=3/\fk b=3)\/(fk a=0/\fk b=0)))->Ev (λk=>Ag.j0 k a b (fk a) (fk b) neg t) (fdiv a b):=by
  intro t ht;refine Ev.step (λk=>Ag.j0.eq_2 ..) ?_;by_cases h:fk a=4\/fk b=4\/(fk a=3/\fk b=3)\/(fk a=0/\fk b=0)
  · refine Ev.AK (ht.2 h) (Ev.AP HI (Ev.same ?_))
    rw[hF,if_pos h]
  · refine Ev.AM (λk=>h (ht.1 k)) ?_
    by_cases h3:fk a=3
    · exact Ev.AK h3 (j1 _ h (by simp[h3]))
    · exact Ev.AM h3 (j1 _ h (by simp[h3]))
 by_cases h:fk a=4
 · exact Ev.AK h (j0 _ (by simp[h]))
 · refine Ev.AM h ?_
   by_cases h2:fk b=4
   · exact Ev.AK h2 (j0 _ (by simp[h2]))
   · refine Ev.AM h2 ?_
     by_cases h3:fk a=3
     · refine Ev.AK h3 ?_
       by_cases h5:fk b=3
       · exact Ev.AK h5 (j0 _ (by simp[h3,h5]))
       · refine Ev.AM h5 (Ev.AM (by omega) (j0 _ (by simp;omega)))
     · refine Ev.AM h3 ?_
       by_cases h5:fk a=0
       · exact Ev.AK h5 (j0 _ (by simp;omega))
       · exact Ev.AM h5 (j0 _ (by simp;omega))
theorem kL {b:Int} (h:U b):K1.f b=some (WA b):=by
 unfold K1.f;rw[D3 h,wu];unfold U at h;show(if fs b=true then some (wrap64 (-(wrap64 (b*2%18446744073709551616/2)))) else some (wrap64 (b*2%18446744073709551616/2)))=some (WA b);unfold WA fs;by_cases hb:b>=9223372036854775808
 · rw[decide_eq_true hb,if_pos rfl,if_pos rfl,AG (n:=b*2%18446744073709551616/2) (by omega) (by omega),AG (by omega) (by omega)]
   congr 1
   omega
 · rw[decide_eq_false hb,if_neg (by decide),if_neg (by decide),AG (by omega) (by omega)]
   congr 1
   omega
theorem sO {a b:Int} (ha:U a) (hb:U b):Iq.f a b=some (decide (fk a≠4/\fk b≠4)):=by
 unfold Iq.f;rw[CZ ha,CZ hb];show(if fk a=4 then some false else some (fk b !=4))=_;by_cases h:fk a=4
 · rw[if_pos h,decide_eq_false (λk=>k.1 h)]
 · rw[if_neg h]
   congr 1
   by_cases h2:fk b=4
   · rw[decide_eq_false (λk=>k.2 h2),bne_eq_false_iff_eq];exact h2
   · rw[decide_eq_true ⟨h,h2⟩,bne_iff_ne];exact h2
theorem MR {a b:Int} (ha:U a) (hb:U b):Em.f a b=some (less a b):=by
 unfold Em.f less;rw[sO ha hb,kL ha,kL hb];show(if decide (fk a≠4/\fk b≠4)=true then some (decide (WA a<WA b)) else some false)=_;by_cases h:fk a≠4/\fk b≠4
 · rw[decide_eq_true h,if_pos rfl]
   congr 1
   simp[h.1,h.2]
 · rw[decide_eq_false h,if_neg (by decide),decide_eq_false (λk=>h ⟨k.1,k.2.1⟩)]
theorem iD {b:Int} (h:fx b=2047\/bl (pm b)+pe b>62):near b=(0,false):=by unfold near;rw[if_pos h]
theorem xH {b:Int} (h:fx b≠2047) (h2:bl (pm b)+pe b<=62):near b=(if fs b then -(ru (pm b) (pe b) 0) else ru (pm b) (pe b) 0,true):=by
 unfold near;rw[if_neg (by omega)]
theorem sP {n:Int} (neg t:Bool) (h0:0<=n) (h1:n<=4611686018427387904):Ev (λk=>CH.j1 k neg n t) (if neg then -(if t then n+1 else n) else(if t then n+1 else n),true):=by
 refine Ev.step (λk=>CH.j1.eq_2 ..) ?_;cases t
 · refine Ev.AM (by decide) ?_
   cases neg
   · exact Ev.AM (by decide) (Ev.same rfl)
   · refine Ev.AK rfl (Ev.same ?_)
     rw[AG (by omega) (by omega)];rfl
 · refine Ev.AK rfl ?_
   cases neg
   · refine Ev.AM (by decide) (Ev.same ?_)
     rw[AG (by omega) (by omega)];rfl
   · refine Ev.AK rfl (Ev.same ?_)
     rw[AG (n:=n+1) (by omega) (by omega),AG (by omega) (by omega)];rfl
theorem xI {b:Int} (h:U b):Ev (λk=>CH.f k b) (near b):=by
 have hP:=J8 h;have a1:=CP b;have a2:=Ct b;by_cases hx:fx b=2047
 · rw[if_pos hx] at hP
   refine Ev.bind hP (Ev.AM (by decide) (Ev.step (λk=>CH.j0.eq_2 ..) (Ev.AK rfl (Ev.same ?_))));rw[iD (.inl hx)]
 · rw[if_neg hx] at hP
   refine Ev.bind hP (Ev.AK rfl (Ev.bind (Gg (x:=pm b) (by unfold U;omega)) ?_));dsimp only;have b0:=CI (pm b);have b1:bl (pm b)<=53:=BF (n:=53) (by omega);have a3 : -1074<=pe b/\pe b<=972:=⟨a2.1,a2.2.1⟩;have a4:=a2.2.2.2;rw[AG (n:=bl (pm b)+pe b) (by omega) (by omega)];clear a2 hP;by_cases h1:bl (pm b)+pe b>62
   · refine Ev.step (λk=>CH.j0.eq_2 ..) (Ev.AK (decide_eq_true h1) (Ev.same ?_))
     rw[iD (.inr h1)]
   · rw[xH hx (by omega)]
     refine Ev.step (λk=>CH.j0.eq_2 ..) (Ev.AM (by rw[decide_eq_false h1];decide) ?_);have l1:=F1 (pm b);generalize pm b=m at *;generalize pe b=e at *;generalize fs b=neg;by_cases h2:e>=0
     · refine Ev.AK h2 (Ev.AK h2 ?_)
       have hlt:m*2^e.toNat<2^62:=by
        have hp:=pow_pos e.toNat;have:=AUw l1 hp;rw[<-AUZ] at this;have:=Ar (a:=(bl m).toNat+e.toNat) (b:=62) (by omega);omega
       have hge:0<=m*2^e.toNat:=AUM a1.1 (by have:=pow_pos e.toNat;omega);have er:ru m e 0=m*2^e.toNat:=by
        unfold ru;rw[show(0-e).toNat=0 by omega,MP,show e-0=e by omega]
       rw[er,M7 _ _ (by omega),AUp hge (by omega),AG (n:=m*2^e.toNat) (by omega) (by omega),AG (by omega) (by omega)];cases neg
       · exact Ev.AM (by decide) (Ev.same rfl)
       · exact Ev.AK rfl (Ev.same rfl)
     · refine Ev.AM h2 ?_
       by_cases h3:e> -64
       · refine Ev.AK h3 ?_
         obtain⟨d,hd⟩ : ∃d:Nat,-e=((d+1:Nat):Int):=⟨(-e).toNat-1,by omega⟩;have APi:d+1<=63:=(by omega);have er:ru m e 0=Oq m (d+1):=by
          unfold ru;rw[show(0-e).toNat=d+1 by omega,show(e-0).toNat=0 by omega,AUW,AUk]
         rw[AG (n:= -e) (by omega) (by omega),AG (n:=64+e) (by omega) (by omega)];refine Ev.AK (by omega) (Ev.AK (by omega) ?_);have hp:=pow_pos (d+1);have q0:0<=m/2^(d+1):=AUX a1.1 (by omega);have q1:m/2^(d+1)<=m:=AU2 _ a1.1;have r0:=AUe m (show(2:Int)^(d+1)≠0 by omega);have r1:=AUd m hp;have hH:(2:Int)^(d+1)=2*2^d:=(by rw[AUY,AUQ]);have hGH:(2:Int)^(64-(d+1))*2^d=9223372036854775808:=(by rw[<-AUZ,show 64-(d+1)+d=63 by omega];rfl);rw[WV _ _ (by omega),M7 _ _ (by omega),hd,AUD,show(64+e).toNat=64-(d+1) by omega,ACr m (show 64-(d+1)<=64 by omega),show 64-(64-(d+1))=d+1 by omega,AG (n:=m/2^(d+1)) (by omega) (by omega),c9,er];have hG:=pow_pos (64-(d+1));have J:=λt=>sP (n:=m/2^(d+1)) neg t q0 (by omega)
         rcases AV3 (m%2^(d+1)) (2^d) with hc | hc | hc
         · have:2^(64-(d+1))*(m%2^(d+1))<9223372036854775808:=by rw[<-hGH];exact AVo hc hG
           refine Ev.AM (by omega) (Ev.AM (by omega) ((J false).WS ?_));have e1:Oq m (d+1)=m/2^(d+1):=by
            unfold Oq;rw[if_neg (by omega)]
           rw[e1];rfl
         · refine Ev.AM (by rw[hc,hGH];omega) (Ev.AK (by rw[hc,hGH]) ((J _).WS ?_))
           have e1:Oq m (d+1)=if(m/2^(d+1)%2==1)=true then m/2^(d+1)+1 else m/2^(d+1):=by
            unfold Oq;by_cases ho:m/2^(d+1)%2=1
            · rw[if_pos (.inr ⟨by omega,ho⟩),if_pos (by rw[ho];rfl)]
            · rw[if_neg (by omega),if_neg (by rw[beq_iff_eq];exact ho)]
           rw[e1]
         · have:9223372036854775808<2^(64-(d+1))*(m%2^(d+1)):=by rw[<-hGH];exact AVo hc hG
           refine Ev.AK (by omega) ((J true).WS ?_);have e1:Oq m (d+1)=m/2^(d+1)+1:=by
            unfold Oq;rw[if_pos (.inl (by omega))]
           rw[e1];rfl
       · refine Ev.AM h3 ?_
         have er:ru m e 0=0:=by
          unfold ru;rw[show(e-0).toNat=0 by omega,AUW,AUk];have:=Ar (a:=64) (b:=(0-e).toNat) (by omega);exact bJ a1.1 (by omega)
         rw[er];cases neg
         · exact Ev.AM (by decide) (Ev.same rfl)
         · exact Ev.AK rfl (Ev.same rfl)
theorem xJ (k c:Int) (hc:0<=c):mn (mx k (-c)) c=min (max k (-c)) c:=by
 unfold mn mx;split<;>split<;>omega
theorem sQ {b k:Int} (h:U b):Ev (λr=>KJ.f r b k) (Mo b k):=by
 have hP:=J8 h;have a1:=CP b;have a2:=Ct b;unfold Mo;by_cases hx:fx b=2047
 · rw[if_pos hx] at hP ⊢
   exact Ev.bind hP (Ev.AM (by decide) (Ev.AP (WT h) (Ev.same rfl)))
 · rw[if_neg hx] at hP ⊢
   refine Ev.bind hP (Ev.AK rfl ?_);dsimp only;have a3 : -1074<=pe b/\pe b<=972:=⟨a2.1,a2.2.1⟩;clear a2;rw[xJ k 5000 (by omega),AG (by omega) (by omega)];refine Ev.bind (Cg (e:=pe b+min (max k (-5000)) 5000) (fs b) (m:=pm b) (by unfold U;omega)) (Ev.same ?_);rw[M8 (by omega) (by omega)]
theorem NW {a b:Int} (ha:U a) (hb:U b):Ev (λk=>Ba.f k a b) (less a b):=by
 have j0 : ∀t:Bool,t=decide (fk a=4\/fk b=4)->Ev (λk=>Ba.j0 k a b t) (less a b):=λt ht=>by
  refine Ev.step (λk=>Ba.j0.eq_2 ..) ?_;by_cases h:fk a=4\/fk b=4
  · rw[show less a b=false from decide_eq_false λk=>h.elim k.1 k.2.1]
    exact Ev.AK (by rw[ht];exact decide_eq_true h) (Ev.same rfl)
  · have hl:less a b=decide (WA a<WA b):=by
     unfold less;refine decide_eq_decide.2 ⟨λk=>k.2.2,λk=>⟨λz=>h (.inl z),λz=>h (.inr z),k⟩⟩
    rw[hl];refine Ev.AM (by rw[ht,decide_eq_false h];decide) (Ev.AP (Cs ha) (Ev.AP (Cs hb) ?_));unfold U at ha hb;have sa:fs a=decide (a>=9223372036854775808):=rfl;have sb:fs b=decide (b>=9223372036854775808):=rfl;unfold WA;by_cases h1:a>=9223372036854775808
    · rw[sa,decide_eq_true h1]
      refine Ev.AK rfl (Ev.step (λk=>Ba.j1.eq_2 ..) ?_);by_cases h2:b>=9223372036854775808
      · rw[sb,decide_eq_true h2]
        refine Ev.AK rfl (Ev.same ?_);simp only[if_true]
        congr 1
        exact decide_eq_decide.2 (by omega)
      · rw[sb,decide_eq_false h2]
        refine Ev.AM (by decide) (Ev.AK rfl ?_);simp only[if_true,AVI,if_false];by_cases h3:a=9223372036854775808
        · refine Ev.AK h3 (Ev.same ?_)
          congr 1
          rw[h3];by_cases h4:b=0
          · rw[h4];rfl
          · rw[decide_eq_true (by omega)]
            simp[h4]
        · refine Ev.AM h3 (Ev.same ?_)
          rw[decide_eq_true (by omega)]
    · rw[sa,decide_eq_false h1]
      refine Ev.AM (by decide) (Ev.step (λk=>Ba.j1.eq_2 ..) (Ev.AM (by decide) (Ev.AM (by decide) ?_)));by_cases h2:b>=9223372036854775808
      · rw[sb,decide_eq_true h2]
        refine Ev.AK rfl (Ev.same ?_);simp only[if_true,AVI,if_false];rw[decide_eq_false (by omega)]
      · rw[sb,decide_eq_false h2]
        refine Ev.AM (by decide) (Ev.same ?_);simp only[AVI,if_false]
 refine Ev.AP (CO ha) ?_;by_cases h1:fk a=4
 · exact Ev.AK h1 (j0 true (by rw[decide_eq_true (.inl h1)]))
 · refine Ev.AM h1 (Ev.AP (CO hb) (j0 _ ?_))
   by_cases h2:fk b=4
   · rw[h2,decide_eq_true (.inr rfl)];rfl
   · rw[decide_eq_false (λk=>k.elim h1 h2)]
     simp[h2]
theorem L9 {b k:Int} (h:U b):Ev (λr=>Fo.f r b k) (Mo b k):=by
 have a1:=CP b;have a2:=Ct b;refine Ev.AP (Tx h) ?_;unfold Mo;by_cases hx:fx b=2047
 · rw[if_pos hx,decide_eq_false (by omega)]
   exact Ev.AM (by decide) (Ev.AP (WW h) (Ev.same rfl))
 · rw[if_neg hx,decide_eq_true hx]
   refine Ev.AK rfl (Ev.AP (EP h) (Ev.AP (Cs h) ?_));dsimp only;have a3 : -1074<=pe b/\pe b<=972:=⟨a2.1,a2.2.1⟩;clear a2;rw[xJ k 9000 (by omega),AG (by omega) (by omega)];have:=Lf (fs b) (l:= [pm b]) ⟨Gf (by unfold U;omega),by simp⟩ (by simp) (e:=pe b+min (max k (-9000)) 9000) (by omega) (by omega);rw[Fp,AAm] at this;exact Ev.bind this (Ev.same rfl)
theorem nR {b n:Int} (hb:U b) (t:Bool) (h0:0<=n) (h1:n<=4611686018427387904):Ev (λk=>CW.j1 k b n t) (if fs b then -(if t then n+1 else n) else(if t then n+1 else n),true):=by
 refine Ev.step (λk=>CW.j1.eq_2 ..) ?_;cases t
 · refine Ev.AM (by decide) (Ev.AP (Cs hb) ?_)
   cases fs b
   · exact Ev.AM (by decide) (Ev.same rfl)
   · refine Ev.AK rfl (Ev.same ?_)
     rw[AG (by omega) (by omega)];rfl
 · refine Ev.AK rfl (Ev.AP (Cs hb) ?_)
   cases fs b
   · refine Ev.AM (by decide) (Ev.same ?_)
     rw[AG (by omega) (by omega)];rfl
   · refine Ev.AK rfl (Ev.same ?_)
     rw[AG (n:=n+1) (by omega) (by omega),AG (by omega) (by omega)];rfl
theorem sR {b:Int} (h:U b):Ev (λk=>CW.f k b) (near b):=by
 have a1:=CP b;have a2:=Ct b;refine Ev.AP (Tx h) ?_;by_cases hx:fx b=2047
 · rw[decide_eq_false (by omega),iD (.inl hx)]
   exact Ev.AM (by decide) (Ev.same rfl)
 · rw[decide_eq_true hx]
   refine Ev.AK rfl (Ev.AP (EP h) ?_);dsimp only;have a3 : -1074<=pe b/\pe b<=972:=⟨a2.1,a2.2.1⟩;have a4:=a2.2.2.2;clear a2;have b1:bl (pm b)<=53:=BF (n:=53) (by omega);have wm:Wl [pm b]:=⟨Gf (by unfold U;omega),by simp⟩;have S1:=C3 wm (by simp) (pe b);rw[Fp,K6 (by omega)] at S1;refine Ev.bind S1 ?_;have hp:=pow_pos (pe b).toNat;have hM0:0<=pm b*2^(pe b).toNat:=AUM a1.1 (by omega);have bM:bl (pm b*2^(pe b).toNat)<=53+972:=by
    rcases(show pm b=0\/0<pm b by omega) with h0 | h0
    · rw[h0,AVO,L8];omega
    · have:=Po h0 (pe b).toNat
      omega
   have R1:=Ka (a:=dg (pm b*2^(pe b).toNat)) (Av (by omega)) (n:= -pe b) (by omega);rw[AR hM0] at R1;rw[AG (n:= -pe b) (by omega) (by omega)];refine Ev.bind R1 ?_;have Mw:=pow_pos (-pe b).toNat;have hW0:0<=pm b*2^(pe b).toNat/2^(-pe b).toNat:=AUX hM0 (by omega);have AIo:pm b*2^(pe b).toNat/2^(-pe b).toNat<=pm b*2^(pe b).toNat:=AU2 _ hM0;have bW:=Bq AIo;have B:=Ho (l:=dg (pm b*2^(pe b).toNat/2^(-pe b).toNat)) (Av (by omega));rw[AR hW0] at B;refine Ev.bind B ?_;have bb:bl (pm b*2^(pe b).toNat/2^(-pe b).toNat)>62↔bl (pm b)+pe b>62:=by
    rcases AU1 (pe b) 0 with he | he
    · have e1:pm b*2^(pe b).toNat=pm b:=by rw[show(pe b).toNat=0 by omega,AUW,AUk]
      rw[e1] at bW ⊢;omega
    · have e1:(-pe b).toNat=0:=by omega
      rw[e1,AUW,AU9,Po (by omega)];omega
   by_cases h1:bl (pm b)+pe b>62
   · rw[iD (.inr h1)]
     exact Ev.AK (bb.2 h1) (Ev.same rfl)
   · rw[xH hx (by omega)]
     refine Ev.AM (λk=>h1 (bb.1 k)) ?_;have ALT:pm b*2^(pe b).toNat/2^(-pe b).toNat<4611686018427387904:=by
      have l:=F1 (pm b*2^(pe b).toNat/2^(-pe b).toNat);have hn:=CI (pm b*2^(pe b).toNat/2^(-pe b).toNat);have:=Ar (a:=(bl (pm b*2^(pe b).toNat/2^(-pe b).toNat)).toNat) (b:=62) (by
       have : ¬bl (pm b*2^(pe b).toNat/2^(-pe b).toNat)>62:=λk=>h1 (bb.1 k)
       omega)
      omega
     clear S1 R1 B bb;have j0:Ev (λk=>CW.j0 k b (pm b) (pe b) (dg (pm b*2^(pe b).toNat/2^(-pe b).toNat)) (pm b*2^(pe b).toNat/2^(-pe b).toNat)) (if fs b then -(ru (pm b) (pe b) 0) else ru (pm b) (pe b) 0,true):=by
      refine Ev.step (λk=>CW.j0.eq_2 ..) ?_;by_cases h2:pe b<0
      · refine Ev.AK h2 ?_
        obtain⟨d,hd⟩ : ∃d:Nat,-pe b=d:=⟨(-pe b).toNat,by omega⟩;have e1:pm b*2^(pe b).toNat=pm b:=(by rw[show(pe b).toNat=0 by omega,AUW,AUk]);have er:ru (pm b) (pe b) 0=Oq (pm b) d:=by
         unfold ru;rw[show(0-pe b).toNat=d by omega,show(pe b-0).toNat=0 by omega,AUW,AUk]
        rw[er,AG (n:= -pe b) (by omega) (by omega)];rw[e1] at hW0 AIo bW bM ALT ⊢;rw[hd] at hW0 AIo bW Mw ALT ⊢;rw[AUD] at hW0 AIo bW Mw ALT ⊢;have zL:d<=1074:=(by omega);generalize pm b=m at *;have hdm:=AUV m (2^d);have hm0:=AUe m (show(2:Int)^d≠0 by omega);have hm1:=AUd m Mw;rw[AUQ] at hdm;have He:0<=m/2^d*2^d:=AUM hW0 (by omega);have wq:Wl (dg (m/2^d)):=Av (by omega);have lq:=AN (m/2^d);have S2:=C3 wq (by omega) (d:Int);rw[AR hW0,K6 (by omega),AUD] at S2;refine Ev.bind S2 ?_;have bp:=Bq (show m/2^d*2^d<=m by omega);have lp:=AN (m/2^d*2^d);have D:=HJ wm (b:=dg (m/2^d*2^d)) (Av (by omega)) (by simp) (by omega) (by rw[Fp,AR He];omega);rw[Fp,AR He,show m-m/2^d*2^d=m%2^d by omega] at D;refine Ev.bind D ?_;have br:=Bq (show m%2^d<=m by omega);have lr:=AN (m%2^d);have S3:=C3 (a:=dg (m%2^d)) (Av (by omega)) (by omega) 1;rw[AR hm0,K6 (by omega),show(1:Int).toNat=1 from rfl,AVh] at S3;refine Ev.bind S3 ?_;have w1:Wl [1]:=⟨Gf (by unfold U;omega),by decide⟩;have S4:=C3 w1 (by decide) (d:Int);rw[Fp,K6 (by omega),AUD,AVd] at S4;refine Ev.bind S4 ?_;have bd:bl ((2:Int)^d)<=d+1:=BF (n:=d+1) (by rw[AUY];omega);have br2:bl (m%2^d*2)<=54:=BF (n:=54) (by omega);have C:=GM (a:=dg (m%2^d*2)) (b:=dg (2^d)) (Av (by omega)) (Av (by omega));rw[AR (by omega),AR (by omega)] at C;refine Ev.bind C ?_;clear S2 D S3 S4 C;have J:=λt=>nR (n:=m/2^d) h t hW0 (by omega)
        by_cases h5:Gt (m%2^d*2) (2^d)>0
        · refine Ev.AK h5 ((J true).WS ?_)
          have e1:Oq m d=m/2^d+1:=by
           unfold Oq;rw[if_pos (.inl (by have:=Ns.1 h5;omega))]
          rw[e1];rfl
        · refine Ev.AM h5 ?_
          by_cases h6:Gt (m%2^d*2) (2^d)=0
          · have h7:=KZ.1 h6
            refine Ev.AK h6 ((J _).WS ?_);have e1:Oq m d=if(Int.tmod (m/2^d) 2==1)=true then m/2^d+1 else m/2^d:=by
             rw[AU5 hW0];unfold Oq;by_cases ho:m/2^d%2=1
             · rw[if_pos (.inr ⟨by omega,ho⟩),if_pos (by rw[ho];rfl)]
             · rw[if_neg (by omega),if_neg (by rw[beq_iff_eq];exact ho)]
            rw[e1]
          · refine Ev.AM h6 ((J false).WS ?_)
            have e1:Oq m d=m/2^d:=by
             unfold Oq;rw[if_neg ?_];intro k;rcases k with k | k
             · exact h5 (Ns.2 (by omega))
             · exact h6 (KZ.2 (by omega))
            rw[e1];rfl
      · refine Ev.AM h2 (Ev.AP (Cs h) ?_)
        have er:ru (pm b) (pe b) 0=pm b*2^(pe b).toNat/2^(-pe b).toNat:=by
         unfold ru;rw[show(0-pe b).toNat=0 by omega,MP,show pe b-0=pe b by omega,show(-pe b).toNat=0 by omega,AUW,AU9]
        rw[er,AG (by omega) (by omega)];cases fs b
        · exact Ev.AM (by decide) (Ev.same rfl)
        · exact Ev.AK rfl (Ev.same rfl)
     generalize pm b*2^(pe b).toNat/2^(-pe b).toNat=W at *;rcases(show W=0\/0<W by omega) with h0 | h0
     · rw[h0] at j0 ⊢
       exact Ev.AM (by decide) j0
     · rw[kF h0 (by omega)] at j0 ⊢
       refine Ev.AK (by simp) (Ev.AK (by simp) ?_);rw[show rd [W] 0=W from rfl,AG (by omega) (by omega)];exact j0
def dA (n:Int):Int:=fdiv 4607182418800017408 (fint n)
theorem Ia (n:Int):U (dA n):=XY _ _
def I3:Nat->Int
 | 0=>1
 | n+1=>I3 n*(n+1)
def ADi (r:Int):Nat->Int->Int
 | 0,p=>p
 | i+1,p=>ADi r i (QM (NU p r) (dA (I3 i)))
theorem AGr (r:Int) : ∀(i:Nat) {p:Int},U p->U (ADi r i p)
 | 0,_,h=>h
 | i+1,_,h=>AGr r i (Hl (Da _ _) (Ia _))
def ek (x:Int):Int:=(near (NU x 4609176140021203710)).1
def er (x:Int):Int:=wW (wW x (NU (fint (ek x)) 4604418534311723008)) (NU (fint (ek x)) 4461442080421002358)
def AAo (x:Int):Int:=if fk x=4 then gB else if less (fint 710) x=true then YC else if less x (fint (-746))=true then 0 else Mo (ADi (er x) 13 (dA (I3 13))) (ek x)
def AIp (z:Int):Nat->Int->Int
 | 0,p=>p
 | i+1,p=>AIp z i (QM (NU p z) (dA (2*((i:Int)+1)+1)))
def ls (f:Int):Int:=fdiv (wW f 4607182418800017408) (QM 4611686018427387904 (wW f 4607182418800017408))
def lz (f:Int):Int:=NU (ls f) (ls f)
def lp (f:Int):Int:=AIp (lz f) 9 (dA 21)
def ly (f:Int):Int:=QM (QM (ls f) (ls f)) (NU (QM (ls f) (ls f)) (NU (lp f) (lz f)))
def Ow (f k:Int):Int:=if k=0 then ly f else QM (NU (fint k) 4604418534311723008) (QM (ly f) (NU (fint k) 4461442080421002358))
def Lg (x:Int):Int × Int:=if less 4609047870845172685 (Rd (pm x) (1-bl (pm x)))=true then(Rd (pm x) (-bl (pm x)),pe x+bl (pm x)) else(Rd (pm x) (1-bl (pm x)),pe x+bl (pm x)-1)
def AAp (x:Int):Int:=if fk x=0 then Jq true YC else if fk x=4\/fs x=true then gB else if fk x=3 then x else Ow (Lg x).1 (Lg x).2
theorem AIq {m m' c c':Int} (h:0<m) (h':0<m') (e:m*2^(c+1074).toNat=m'*2^(c'+1074).toNat) (hc : -1074<=c) (hc' : -1074<=c') (d:Int):Rd m (c+d)=Rd m' (c'+d):=by
 have key : ∀ {m m' c c':Int},0<m->0<m'->m*2^(c+1074).toNat=m'*2^(c'+1074).toNat-> -1074<=c->c<=c'->Rd m (c+d)=Rd m' (c'+d):=by
  intro m m' c c' h h' e hc hle;have hm:m=m'*2^(c'-c).toNat:=by
   rw[show(c'+1074).toNat=(c'-c).toNat+(c+1074).toNat by omega,AUZ,<-AUl] at e;exact AVn (by have:=pow_pos (c+1074).toNat;omega) e
  rw[hm,show c+d=c'+d-((c'-c).toNat:Int) by omega];exact Iy h' _ _
 rcases Int.le_total c c' with k | k
 · exact key h h' e hc k
 · exact(key h' h e.symm hc' (by omega)).symm
theorem o8:V 4607182418800017408=2^1074/\fs 4607182418800017408=false/\fk 4607182418800017408≠4:=by
 refine⟨?_,by decide,by decide⟩;rw[Xa (n:=1022) (by decide)];have:fr 4607182418800017408+4503599627370496=2^(52:Nat):=by decide
 rw[this,<-AUZ]
theorem AGs:V 4611686018427387904=2^1075/\fs 4611686018427387904=false/\fk 4611686018427387904≠4:=by
 refine⟨?_,by decide,by decide⟩;rw[Xa (n:=1023) (by decide)];have:fr 4611686018427387904+4503599627370496=2^(52:Nat):=by decide
 rw[this,<-AUZ]
theorem kM {m c b:Int} {q:Nat} (h0:0<m) (h1:m<9007199254740992) (hc0 : -1074<=c) (aU:c<=971) (hb:U b) (hV:V b=2^q) (hs:fs b=false) (hk:fk b≠4):less (Rd m c) b=decide (c+1074+bl m<=q):=by
 obtain⟨e1,e2,e3,e4⟩:=NV h0 h1 hc0 aU;have hfk:fk (Rd m c)≠4:=λk=>by have:=(Oo (Rd m c)).1.1 k;omega
 have hkey:=(AIm e4 hb).1;have s1:SV (Rd m c)=m*2^(c+1074).toNat:=by unfold SV;rw[e2,e3];rfl
 have s2:SV b=2^q:=by unfold SV;rw[hs,hV];rfl
 rw[s1,s2] at hkey;have b1:=F1 m;have b2:=Sp h0;have b3:=C9 h0;unfold less;by_cases h:c+1074+bl m<=q
 · rw[decide_eq_true h]
   refine decide_eq_true ⟨hfk,hk,hkey.1 ?_⟩;have p1:=AUw b1 (pow_pos (c+1074).toNat);rw[<-AUZ] at p1;have p2:=Ar (a:=(bl m).toNat+(c+1074).toNat) (b:=q) (by omega);omega
 · rw[decide_eq_false h]
   refine decide_eq_false λk=> ?_
   have:=hkey.2 k.2.2;have p1:=AUL b2 (AUE (pow_pos (c+1074).toNat));rw[<-AUZ] at p1;have p2:=Ar (a:=q) (b:=(bl m-1).toNat+(c+1074).toNat) (by omega);omega
theorem Xc {m c d:Int} (h0:0<m) (h1:m<9007199254740992) (hc0 : -1074<=c) (aU:c<=971) (zL : -5000<=d) (hd1:d<=5000):Mo (Rd m c) d=Rd m (c+d):=by
 obtain⟨e1,e2,e3,e4⟩:=NV h0 h1 hc0 aU;unfold Mo;rw[if_neg e1,e2,show min (max d (-5000)) 5000=d by omega];have hp:0<pm (Rd m c):=by
  have:=CP (Rd m c);rcases(show pm (Rd m c)=0\/0<pm (Rd m c) by omega) with k | k
  · have:V (Rd m c)=0:=by unfold V;rw[k,AVO]
    rw[e3] at this;have:=AU3 h0 (pow_pos (c+1074).toNat);omega
  · exact k
 have hpe:=Ct (Rd m c);show Rd (pm (Rd m c)) (pe (Rd m c)+d)=_;exact AIq hp h0 (by rw[<-e3];rfl) hpe.1 hc0 d
theorem HK:U 4607182418800017408/\U 4611686018427387904/\U 4609047870845172685/\U 4604418534311723008/\U 4461442080421002358/\U 4609176140021203710:=by unfold U;omega
theorem MA {n:Int} (h0 : -9223372036854775808<=n) (h1:n<=9223372036854775807):Ev (λk=>EW.f k n) (dA n) :=
 Ev.bind (Le h0 h1) (Ev.bind (T6 HK.1 (Mp n)) (Ev.same rfl))
theorem RI {n:Int} (h0 : -9223372036854775808<=n) (h1:n<=9223372036854775807):Ev (λk=>K2.f k n) (dA n) :=
 Ev.bind (IB h0 h1) (Ev.bind (T7 HK.1 (Mp n)) (Ev.same rfl))
theorem AIr:I3 0=1/\I3 1=1/\I3 2=2/\I3 3=6/\I3 4=24/\I3 5=120/\I3 6=720/\I3 7=5040/\I3 8=40320/\I3 9=362880/\I3 10=3628800/\I3 11=39916800/\I3 12=479001600/\I3 13=6227020800:=by decide
theorem I4 {n:Nat} (h:n<=13):1<=I3 n/\I3 n<=6227020800:=by
 have:=AIr;rcases(show n=0\/n=1\/n=2\/n=3\/n=4\/n=5\/n=6\/n=7\/n=8\/n=9\/n=10\/n=11\/n=12\/n=13 by omega) with h | h | h | h | h | h | h | h | h | h | h | h | h | h<;>subst h<;>omega
theorem Y6 {n:Nat} (hn:n<=13) (d:Nat) : ∀i:Nat,i+d=n->Ev (λk=>Bp.l0 k (I3 i) n i) (I3 n):=by
 induction d with
 | zero =>
   intro i hi;obtain rfl:i=n:=by omega
   exact Ev.step (λk=>Bp.l0.eq_2 ..) (Ev.AM (by omega) (Ev.same rfl))
 | succ d ih =>
   intro i hi;have r1:=I4 (n:=i) (by omega);have r2:=I4 (n:=i+1) (by omega);have e1:wrap64 ((i:Int)+1)=((i+1:Nat):Int):=(by rw[AG (by omega) (by omega)];rfl);have e2:wrap64 (I3 i*((i+1:Nat):Int))=I3 (i+1):=by
    have:I3 i*((i+1:Nat):Int)=I3 (i+1):=rfl;rw[this,AG (by omega) (by omega)]
   refine Ev.step (λk=>Bp.l0.eq_2 ..) (Ev.AK (by omega) ?_);simp only[e1,e2];exact ih (i+1) (by omega)
theorem Ox {n:Nat} (hn:n<=13):Ev (λk=>Bp.f k n) (I3 n):=Y6 hn n 0 (by omega)
theorem o9 {m d:Int} (h0:0<m) (h1:m<9007199254740992) (hd:d=0\/d=1):Mk false m (d-bl m)=(Rd m (d-bl m),true):=by
 have b1:bl m<=53:=BF (n:=53) (by have:(2:Int)^53=9007199254740992:=rfl
                                  omega)
 have b2:=C9 h0;have hu:un m (d-bl m)=d-53:=by unfold un;omega
 have:=Tv false (m:=m) (e:=d-bl m) (by omega) (by omega) (by
  rw[hu,show(d-53-(d-bl m)).toNat=0 by omega,AUW,AVs])
 rw[this];rfl
theorem kO {x:Int} (h:U x) (hx:fx x≠2047) (h0:0<pm x):Ev (λk=>Hg.f k x) (Lg x):=by
 have P:=J8 h;rw[if_neg hx] at P;have pr:=CP x;have pe_:=Ct x
 have b1:bl (pm x)<=53:=BF (n:=53) (by have:(2:Int)^53=9007199254740992:=rfl
                                       omega)
 have b2:=C9 h0;have hU:U (pm x):=by unfold U;omega
 have hp:=pe_.2.2.1 hx;refine Ev.bind P (Ev.bind (Gg hU) ?_);simp only[AG (show -9223372036854775808<=1-bl (pm x) by omega) (by omega),AG (show -9223372036854775808<= -bl (pm x) by omega) (by omega),AG (show -9223372036854775808<=pe x+bl (pm x) by omega) (by omega),AG (show -9223372036854775808<=pe x+bl (pm x)-1 by omega) (by omega)];have M1:=K5 false hU (e:=1-bl (pm x)) (by omega) (by omega);have M2:=K5 false hU (e:= -bl (pm x)) (by omega) (by omega);rw[o9 h0 pr.2 (.inr rfl)] at M1;rw[show -bl (pm x)=0-bl (pm x) by omega,o9 h0 pr.2 (.inl rfl)] at M2;have v1:=NV h0 pr.2 (l:=1-bl (pm x)) (by omega) (by omega);refine Ev.bind M1 (Ev.AP (MR HK.2.2.1 v1.2.2.2) ?_);unfold Lg;by_cases hl:less 4609047870845172685 (Rd (pm x) (1-bl (pm x)))=true
 · rw[if_pos hl]
   refine Ev.AK hl ?_;rw[show -bl (pm x)=0-bl (pm x) by omega];exact Ev.bind M2 (Ev.same rfl)
 · rw[if_neg hl]
   exact Ev.AM hl (Ev.same rfl)
theorem Y7 (f:Int):U (ls f):=XY _ _
theorem AIs (f:Int):U (lz f):=Da _ _
theorem ADj (f:Int):U (ly f):=Hl (Hl (Y7 f) (Y7 f)) (Da _ _)
theorem N7 {a b:Int} (ha:U a):U (wW a b):=Hl ha (AIc b)
theorem sS {f e p:Int} (he0 : -5000<=e) (he1:e<=5000) (hp:U p) (i:Nat) (hi:i<=9) (hq:AIp (lz f) i p=lp f):Ev (λk=>B3.l0 k e (ls f) (lz f) p i) (Ow f e):=by
 induction i generalizing p with
 | zero =>
   have hq:p=lp f:=hq;rw[hq];rw[hq] at hp;refine Ev.step (λk=>B3.l0.eq_2 ..) (Ev.AM (by omega) (Ev.bind (Hq (Y7 f) (Y7 f)) (Ev.bind (Ec hp (AIs f)) (Ev.bind (Ec (Hl (Y7 f) (Y7 f)) (Da _ _)) (Ev.bind (Hq (Hl (Y7 f) (Y7 f)) (Da _ _)) ?_)))));unfold Ow;by_cases h0:e=0
   · rw[if_pos h0]
     exact Ev.AK h0 (Ev.same rfl)
   · rw[if_neg h0]
     exact Ev.AM h0 (Ev.bind (Le (by omega) (by omega)) (Ev.bind (Ec (Mp e) HK.2.2.2.1) (Ev.bind (Ec (Mp e) HK.2.2.2.2.1) (Ev.bind (Hq (ADj f) (Da _ _)) (Ev.bind (Hq (Da _ _) (Hl (ADj f) (Da _ _))) (Ev.same rfl))))))
 | succ i ih =>
   have e1:wrap64 (wrap64 (2*((i+1:Nat):Int))+1)=2*((i:Int)+1)+1:=(by rw[AG (n:=2*((i+1:Nat):Int)) (by omega) (by omega),AG (by omega) (by omega)];omega);have e2:wrap64 (((i+1:Nat):Int)-1)=(i:Int):=(by rw[AG (by omega) (by omega)];omega);refine Ev.step (λk=>B3.l0.eq_2 ..) (Ev.AK (by omega) ?_);simp only[e1,e2];exact Ev.bind (Ec hp (AIs f)) (Ev.bind (MA (by omega) (by omega)) (Ev.bind (Hq (Da _ _) (Ia _)) (ih (Hl (Da _ _) (Ia _)) (by omega) hq)))
theorem sU {x:Int} (h:U x):Ev (λk=>B3.f k x) (AAp x):=by
 refine Ev.AP (CZ h) ?_;unfold AAp;by_cases h0:fk x=0
 · rw[if_pos h0]
   exact Ev.AK h0 (Ev.AP (HG true) (Ev.same rfl))
 rw[if_neg h0];refine Ev.AM h0 ?_;have j0 : ∀b:Bool,b=decide (fk x=4\/fs x=true)->Ev (λk=>B3.j0 k x (fk x) b) (if fk x=4\/fs x=true then gB else if fk x=3 then x else Ow (Lg x).1 (Lg x).2):=λb hb=>by
  refine Ev.step (λk=>B3.j0.eq_2 ..) ?_;by_cases h4:fk x=4\/fs x=true
  · rw[if_pos h4]
    exact Ev.AK (by rw[hb];exact decide_eq_true h4) (Ev.AP FQ (Ev.same rfl))
  · rw[if_neg h4]
    refine Ev.AM (by rw[hb,decide_eq_false h4];decide) ?_;by_cases h3:fk x=3
    · rw[if_pos h3]
      exact Ev.AK h3 (Ev.same rfl)
    · rw[if_neg h3]
      have hx:=I0 (λk=>h4 (.inl k)) h3;have hp:0<pm x:=by
       have:=(Oo x).2.2.2.1;have:=CP x;rcases(show pm x=0\/0<pm x by omega) with k | k
       · exact absurd ((Oo x).2.2.2.1.2 ⟨hx,k⟩) h0
       · exact k
      have pr:=CP x;have pe_:=Ct x;have hpe:=pe_.2.2.1 hx
      have b1:bl (pm x)<=53:=BF (n:=53) (by have:(2:Int)^53=9007199254740992:=rfl
                                            omega)
      have b2:=C9 hp;have v1:=NV hp pr.2 (l:=1-bl (pm x)) (by omega) (by omega);have v2:=NV hp pr.2 (l:= -bl (pm x)) (by omega) (by omega);have hU:U (Lg x).1/\ -5000<=(Lg x).2/\(Lg x).2<=5000:=by
       unfold Lg;split
       · exact⟨v2.2.2.2,by dsimp only;omega,by dsimp only;omega⟩
       · exact⟨v1.2.2.2,by dsimp only;omega,by dsimp only;omega⟩
      refine Ev.AM h3 (Ev.bind (kO h hx hp) (Ev.bind (RH hU.1 HK.1) (Ev.bind (Hq HK.2.1 (N7 hU.1)) (Ev.bind (T6 (N7 hU.1) (Hl HK.2.1 (N7 hU.1))) (Ev.bind (Ec (XY _ _) (XY _ _)) (Ev.bind (MA (by omega) (by omega)) ?_))))));exact sS hU.2.1 hU.2.2 (Ia _) 9 (by omega) rfl
 by_cases h4:fk x=4
 · exact Ev.AK h4 (j0 true (by rw[decide_eq_true (.inl h4)]))
 · refine Ev.AM h4 (Ev.AP (D3 h) (j0 _ ?_))
   cases hs:fs x
   · rw[decide_eq_false (by rintro(k | k);exact h4 k;cases k)]
   · rw[decide_eq_true (.inr rfl)]
theorem sV {f e p:Int} (he0 : -5000<=e) (he1:e<=5000) (hp:U p) (i:Nat) (j:Int) (hi:(i:Int)+j=9) (hj:0<=j) (hq:AIp (lz f) i p=lp f):Ev (λk=>Au.l2 k e (ls f) (lz f) p j) (Ow f e):=by
 induction i generalizing p j with
 | zero =>
   have hq:p=lp f:=hq;rw[hq];rw[hq] at hp;refine Ev.step (λk=>Au.l2.eq_2 ..) (Ev.AM (by omega) (Ev.bind (GN (Y7 f) (Y7 f)) (Ev.bind (Ed hp (AIs f)) (Ev.bind (Ed (Hl (Y7 f) (Y7 f)) (Da _ _)) (Ev.bind (GN (Hl (Y7 f) (Y7 f)) (Da _ _)) ?_)))));unfold Ow;by_cases h0:e=0
   · rw[if_pos h0]
     exact Ev.AK h0 (Ev.same rfl)
   · rw[if_neg h0]
     exact Ev.AM h0 (Ev.bind (IB (by omega) (by omega)) (Ev.bind (Ed (Mp e) HK.2.2.2.1) (Ev.bind (Ed (Mp e) HK.2.2.2.2.1) (Ev.bind (GN (ADj f) (Da _ _)) (Ev.bind (GN (Da _ _) (Hl (ADj f) (Da _ _))) (Ev.same rfl))))))
 | succ i ih =>
   have e1:wrap64 (19-wrap64 (2*j))=2*((i:Int)+1)+1:=(by rw[AG (n:=2*j) (by omega) (by omega),AG (by omega) (by omega)];omega);have e2:wrap64 (j+1)=j+1:=AG (by omega) (by omega);refine Ev.step (λk=>Au.l2.eq_2 ..) (Ev.AK (by omega) ?_);simp only[e1,e2];exact Ev.bind (Ed hp (AIs f)) (Ev.bind (RI (by omega) (by omega)) (Ev.bind (GN (Da _ _) (Ia _)) (ih (Hl (Da _ _) (Ia _)) (j+1) (by omega) (by omega) hq)))
theorem Y8 {f e:Int} (hU:U f) (he0 : -5000<=e) (he1:e<=5000):Ev (λk=>Au.j3 k f e) (Ow f e) :=
 Ev.step (λk=>Au.j3.eq_2 ..) (Ev.bind (Ov hU HK.1) (Ev.bind (GN HK.2.1 (N7 hU)) (Ev.bind (T7 (N7 hU) (Hl HK.2.1 (N7 hU))) (Ev.bind (Ed (XY _ _) (XY _ _)) (Ev.bind (RI (by omega) (by omega)) (sV he0 he1 (Ia _) 9 0 (by omega) (by omega) rfl))))))
theorem IN {a b:Int} (ha:U a) (hb:U b):Ev (λk=>Ba.f k a b) (less a b):=NW ha hb
theorem Y9 {m c e:Int} (h0:0<m) (h1:m<9007199254740992) (aU:c<=971) (hc:1<=c+bl m) (he0 : -2000<=e) (n:Nat) (hn:(c+bl m).toNat<=n) (hb:e+c+bl m<=2000):Ev (λk=>Au.l1 k (Rd m c) e) (if less 4609047870845172685 (Rd m (1-bl m))=true then Ow (Rd m (-bl m)) (e+c+bl m) else Ow (Rd m (1-bl m)) (e+c+bl m-1)):=by
 have b1:bl m<=53:=BF (n:=53) (by have:(2:Int)^53=9007199254740992:=rfl
                                  omega)
 have b2:=C9 h0;induction n generalizing c e with
 | zero=>omega
 | succ n ih =>
   have v1:=NV h0 h1 (l:=c) (by omega) aU;have hl:=kM h0 h1 (c:=c) (by omega) aU HK.2.1 AGs.1 AGs.2.1 AGs.2.2;have L1:=IN v1.2.2.2 HK.2.1;refine Ev.step (λk=>Au.l1.eq_2 ..) (Ev.bind L1 ?_);rw[hl];by_cases hd:c+1074+bl m<=((1075:Nat):Int)
   · rw[decide_eq_true hd]
     have AS8:c=1-bl m:=(by omega);subst AS8;refine Ev.AK rfl (Ev.bind (IN HK.2.2.1 v1.2.2.2) ?_);by_cases hR:less 4609047870845172685 (Rd m (1-bl m))=true
     · rw[if_pos hR]
       have S:=L9 (b:=Rd m (1-bl m)) (k:= -1) v1.2.2.2;rw[Xc h0 h1 (by omega) aU (by omega) (by omega),show 1-bl m+ -1= -bl m by omega] at S;have v2:=NV h0 h1 (l:= -bl m) (by omega) (by omega);refine Ev.AK hR (Ev.bind S ?_);have e1:wrap64 (e+1)=e+(1-bl m)+bl m:=(by rw[AG (by omega) (by omega)];omega);rw[e1];exact Y8 v2.2.2.2 (by omega) (by omega)
     · rw[if_neg hR]
       refine Ev.AM hR ?_;have e1:e=e+(1-bl m)+bl m-1:=(by omega);rw[<-e1];exact Y8 v1.2.2.2 (by omega) (by omega)
   · rw[decide_eq_false hd]
     have S:=L9 (b:=Rd m c) (k:= -1) v1.2.2.2;rw[Xc h0 h1 (by omega) aU (by omega) (by omega)] at S;refine Ev.AM (by decide) (Ev.bind S ?_);rw[AG (n:=e+1) (by omega) (by omega)];have:=ih (c:=c+ -1) (e:=e+1) (by omega) (by omega) (by omega) (by omega) (by omega);rw[show e+1+(c+ -1)+bl m=e+c+bl m by omega] at this;exact this
theorem sW {m c e:Int} (h0:0<m) (h1:m<9007199254740992) (hc0 : -1074<=c) (aU:c<=971) (he0 : -1500+max (1-c-bl m) 0<=e) (n:Nat) (hn:(1-c-bl m).toNat<=n) (hb:e+c+bl m<=1500):Ev (λk=>Au.l0 k (Rd m c) e) (if less 4609047870845172685 (Rd m (1-bl m))=true then Ow (Rd m (-bl m)) (e+c+bl m) else Ow (Rd m (1-bl m)) (e+c+bl m-1)):=by
 have b1:bl m<=53:=BF (n:=53) (by have:(2:Int)^53=9007199254740992:=rfl
                                  omega)
 have b2:=C9 h0;induction n generalizing c e with
 | zero =>
   have v1:=NV h0 h1 (l:=c) hc0 aU;have hl:=kM h0 h1 (c:=c) hc0 aU HK.1 o8.1 o8.2.1 o8.2.2;refine Ev.step (λk=>Au.l0.eq_2 ..) (Ev.bind (IN v1.2.2.2 HK.1) ?_);rw[hl,decide_eq_false (by omega)];exact Ev.AM (by decide) (Y9 h0 h1 aU (by omega) (by omega) (c+bl m).toNat (AUN _) (by omega))
 | succ n ih =>
   have v1:=NV h0 h1 (l:=c) hc0 aU;have hl:=kM h0 h1 (c:=c) hc0 aU HK.1 o8.1 o8.2.1 o8.2.2;refine Ev.step (λk=>Au.l0.eq_2 ..) (Ev.bind (IN v1.2.2.2 HK.1) ?_);rw[hl];by_cases hd:c+1074+bl m<=((1074:Nat):Int)
   · rw[decide_eq_true hd]
     have S:=L9 (b:=Rd m c) (k:=1) v1.2.2.2;rw[Xc h0 h1 hc0 aU (by omega) (by omega)] at S;refine Ev.AK rfl (Ev.bind S ?_);rw[AG (n:=e-1) (by omega) (by omega)];have:=ih (c:=c+1) (e:=e-1) (by omega) (by omega) (by omega) (by omega) (by omega);rw[show e-1+(c+1)+bl m=e+c+bl m by omega] at this;exact this
   · rw[decide_eq_false hd]
     exact Ev.AM (by decide) (Y9 h0 h1 aU (by omega) (by omega) (c+bl m).toNat (AUN _) (by omega))
theorem xK {x:Int} (h:U x):Ev (λk=>Au.f k x) (AAp x):=by
 refine Ev.AP (CO h) ?_;unfold AAp;by_cases h0:fk x=0
 · rw[if_pos h0]
   exact Ev.AK h0 (Ev.AP (HH true) (Ev.same rfl))
 rw[if_neg h0];refine Ev.AM h0 (Ev.AP (CO h) ?_);have j0 : ∀b:Bool,b=decide (fk x=4\/fs x=true)->Ev (λk=>Au.j0 k x b) (if fk x=4\/fs x=true then gB else if fk x=3 then x else Ow (Lg x).1 (Lg x).2):=λb hb=>by
  refine Ev.step (λk=>Au.j0.eq_2 ..) ?_;by_cases h4:fk x=4\/fs x=true
  · rw[if_pos h4]
    exact Ev.AK (by rw[hb];exact decide_eq_true h4) (Ev.AP HI (Ev.same rfl))
  · rw[if_neg h4]
    refine Ev.AM (by rw[hb,decide_eq_false h4];decide) (Ev.AP (CO h) ?_);by_cases h3:fk x=3
    · rw[if_pos h3]
      exact Ev.AK h3 (Ev.same rfl)
    · rw[if_neg h3]
      have hx:=I0 (λk=>h4 (.inl k)) h3;have hp:0<pm x:=by
       have:=CP x;rcases(show pm x=0\/0<pm x by omega) with k | k
       · exact absurd ((Oo x).2.2.2.1.2 ⟨hx,k⟩) h0
       · exact k
      have pr:=CP x;have pe_:=Ct x;have hpe:=pe_.2.2.1 hx
      have b1:bl (pm x)<=53:=BF (n:=53) (by have:(2:Int)^53=9007199254740992:=rfl
                                            omega)
      have b2:=C9 hp;have hs:fs x=false:=by
       cases hs:fs x
       · rfl
       · exact absurd (.inr hs) h4
      have hw:=xB h (λk=>h4 (.inl k)) h3;rw[hs] at hw;have hw:Rd (pm x) (pe x)=x:=hw;have:=sW hp pr.2 pe_.1 hpe (e:=0) (by omega) (1-pe x-bl (pm x)).toNat (AUN _) (by omega);rw[hw] at this;refine Ev.AM h3 (this.WS ?_);unfold Lg;split
      · rw[show 0+pe x+bl (pm x)=pe x+bl (pm x) by omega]
      · rw[show 0+pe x+bl (pm x)-1=pe x+bl (pm x)-1 by omega]
 by_cases h4:fk x=4
 · exact Ev.AK h4 (j0 true (by rw[decide_eq_true (.inl h4)]))
 · refine Ev.AM h4 (Ev.AP (Cs h) (j0 _ ?_))
   cases hs:fs x
   · rw[decide_eq_false (by rintro(k | k);exact h4 k;cases k)]
   · rw[decide_eq_true (.inr rfl)]
theorem kP {b:Int} (h:U b) : -9223372036854775808<=(near b).1/\(near b).1<=9223372036854775807:=by
 unfold near;split
 · exact⟨by decide,by decide⟩
 · rename_i hh
   have p:=CP b;have key:0<=ru (pm b) (pe b) 0/\ru (pm b) (pe b) 0<=9223372036854775807:=by
    have l1:=F1 (pm b);have hb:bl (pm b)+pe b<=62:=by
     rcases AU1 62 (bl (pm b)+pe b) with k | k
     · exact absurd (.inr k) hh
     · exact k
    have b0:=CI (pm b);by_cases h2:0<=pe b
    · have hp:=pow_pos (pe b).toNat
      have h3:=AUw l1 hp;rw[<-AUZ] at h3;have h4:=Ar (a:=(bl (pm b)).toNat+(pe b).toNat) (b:=62) (by omega);have e62:(2:Int)^62=4611686018427387904:=rfl;have hge:0<=pm b*2^(pe b).toNat:=AUM p.1 (AUE hp);unfold ru;rw[show(0-pe b).toNat=0 by omega,MP,show pe b-0=pe b by omega];omega
    · unfold ru
      rw[show(pe b-0).toNat=0 by omega,AUW,AUk];have r:=AGt (pm b) (0-pe b).toNat;have q:=AU2 (2^(0-pe b).toNat) p.1;have q2:=AUX p.1 (AUE (pow_pos (0-pe b).toNat));omega
   split
   · exact⟨by dsimp only;omega,by dsimp only;omega⟩
   · exact⟨by dsimp only;omega,by dsimp only;omega⟩
theorem xL {r p e:Int} (hr:U r) (hp:U p) (i:Nat) (j:Int) (hi:(i:Int)+j=13) (hj:0<=j):Ev (λk=>FF.l0 k e r p j) (Mo (ADi r i p) e):=by
 induction i generalizing p j with
 | zero=>exact Ev.step (λk=>FF.l0.eq_2 ..) (Ev.AM (by omega) (Ev.bind (L9 hp) (Ev.same rfl)))
 | succ i ih =>
   have e1:wrap64 (12-j)=(i:Int):=(by rw[AG (by omega) (by omega)];omega);have e2:wrap64 (j+1)=j+1:=AG (by omega) (by omega);have f1:=I4 (n:=i) (by omega);refine Ev.step (λk=>FF.l0.eq_2 ..) (Ev.AK (by omega) ?_);simp only[e1,e2];exact Ev.bind (Ed hp hr) (Ev.bind (Ox (by omega)) (Ev.bind (RI (by omega) (by omega)) (Ev.bind (GN (Da _ _) (Ia _)) (ih (Hl (Da _ _) (Ia _)) (j+1) (by omega) (by omega)))))
theorem APp {x:Int} (h:U x):U (er x):=N7 (N7 h)
theorem xM {x:Int} (h:U x):Ev (λk=>FF.f k x) (AAo x):=by
 refine Ev.AP (CO h) ?_;unfold AAo;by_cases h4:fk x=4
 · rw[if_pos h4]
   exact Ev.AK h4 (Ev.AP HI (Ev.same rfl))
 rw[if_neg h4];refine Ev.AM h4 (Ev.bind (IB (by omega) (by omega)) (Ev.bind (IN (Mp 710) h) ?_));by_cases h1:less (fint 710) x=true
 · rw[if_pos h1]
   exact Ev.AK h1 (Ev.AP (HH false) (Ev.same rfl))
 rw[if_neg h1];refine Ev.AM h1 (Ev.bind (IB (by omega) (by omega)) (Ev.bind (IN h (Mp (-746))) ?_));by_cases h2:less x (fint (-746))=true
 · rw[if_pos h2]
   exact Ev.AK h2 (Ev.same rfl)
 rw[if_neg h2];have nr:=kP (Da x 4609176140021203710);have f1:=I4 (n:=13) (by omega);exact Ev.AM h2 (Ev.bind (Ed h HK.2.2.2.2.2) (Ev.bind (sR (Da _ _)) (Ev.bind (IB nr.1 nr.2) (Ev.bind (Ed (Mp _) HK.2.2.2.1) (Ev.bind (Ov h (Da _ _)) (Ev.bind (Ed (Mp _) HK.2.2.2.2.1) (Ev.bind (Ov (N7 h) (Da _ _)) (Ev.bind (Ox (n:=13) (by omega)) (Ev.bind (RI (by omega) (by omega)) (xL (APp h) (Ia _) 13 0 (by omega) (by omega)))))))))))
def xN (i:Nat):List Int:=(List.range 14).map λj=>if j<=i then I3 j else 0
theorem ZA (i:Nat):(xN i).length=14:=by simp[xN]
theorem AGu : ∀i:Fin 13,(xN i.1).set (i.1+1) (I3 (i.1+1))=xN (i.1+1):=by decide
theorem AGv : ∀i:Fin 14,∀j:Fin 14,j.1<=i.1->(xN i.1).getD j.1 0=I3 j.1:=by decide
theorem sX {i j:Nat} (hi:i<14) (hj:j<=i):rd (xN i) (j:Int)=I3 j:=AGv ⟨i,hi⟩ ⟨j,by omega⟩ hj
theorem nS {r p e:Int} (hr:U r) (hp:U p) (i:Nat) (hi:i<=13):Ev (λk=>Bv.l1 k e r (xN 13) p ((i:Int)-1)) (Mo (ADi r i p) e):=by
 induction i generalizing p with
 | zero=>exact Ev.step (λk=>Bv.l1.eq_2 ..) (Ev.AM (by omega) (Ev.bind (sQ hp) (Ev.same rfl)))
 | succ i ih =>
   have e0:((i+1:Nat):Int)-1=(i:Int):=(by omega);have e2:wrap64 ((i:Int)-1)=(i:Int)-1:=AG (by omega) (by omega);have f1:=I4 (n:=i) (by omega);rw[e0];refine Ev.step (λk=>Bv.l1.eq_2 ..) (Ev.AK (by omega) (Ev.bind (Ec hp hr) (Ev.AK (by omega) (Ev.AK (by omega) (Ev.AK (by rw[ZA];omega) ?_)))));rw[sX (by omega) (by omega),e2];exact Ev.bind (MA (by omega) (by omega)) (Ev.bind (Hq (Da _ _) (Ia _)) (ih (Hl (Da _ _) (Ia _)) (by omega)))
theorem nT {r e:Int} (hr:U r) (d:Nat) : ∀i:Nat,i+d=13->Ev (λk=>Bv.l0 k e r (xN i) i) (Mo (ADi r 13 (dA (I3 13))) e):=by
 induction d with
 | zero =>
   intro i hi;obtain rfl:i=13:=by omega
   have f1:=I4 (n:=13) (by omega);refine Ev.step (λk=>Bv.l0.eq_2 ..) (Ev.AM (by omega) (Ev.AK (by rw[ZA];omega) ?_));rw[show(13:Int)=((13:Nat):Int) from rfl,sX (by omega) (by omega)];exact Ev.bind (MA (by omega) (by omega)) (nS hr (Ia _) 13 (by omega))
 | succ d ih =>
   intro i hi;have f1:=I4 (n:=i) (by omega);have f2:=I4 (n:=i+1) (by omega);have e1:wrap64 ((i:Int)+1)=((i+1:Nat):Int):=(by rw[AG (by omega) (by omega)];rfl);have e2:wrap64 (I3 i*((i+1:Nat):Int))=I3 (i+1):=by
    have:I3 i*((i+1:Nat):Int)=I3 (i+1):=rfl;rw[this,AG (by omega) (by omega)]
   refine Ev.step (λk=>Bv.l0.eq_2 ..) (Ev.AK (by omega) ?_);rw[sX (by omega) (by omega)];simp only[e1,e2];refine Ev.AK (by omega) (Ev.AK (by omega) (Ev.AK (by rw[ZA];omega) (Ev.AK (by omega) (Ev.AK (by omega) (Ev.AK (by rw[ZA];omega) ?_)))));rw[show(((i+1:Nat):Int)).toNat=i+1 by omega,AGu ⟨i,by omega⟩];exact ih (i+1) (by omega)
theorem AGw:fint 710=4649456441864749056:=by decide
theorem AGx:fint (-746)=13873145138068324352:=by decide
theorem sY {x:Int} (h:U x):Ev (λk=>Bv.f k x) (AAo x):=by
 refine Ev.AP (CZ h) ?_;unfold AAo;by_cases h4:fk x=4
 · rw[if_pos h4]
   exact Ev.AK h4 (Ev.AP FQ (Ev.same rfl))
 rw[if_neg h4];have u1:U 4649456441864749056:=by unfold U;omega
 have u2:U 13873145138068324352:=by unfold U;omega
 rw[AGw,AGx];refine Ev.AM h4 (Ev.AP (MR u1 h) ?_);by_cases h1:less 4649456441864749056 x=true
 · rw[if_pos h1]
   exact Ev.AK h1 (Ev.AP (HG false) (Ev.same rfl))
 rw[if_neg h1];refine Ev.AM h1 (Ev.AP (MR h u2) ?_);by_cases h2:less x 13873145138068324352=true
 · rw[if_pos h2]
   exact Ev.AK h2 (Ev.same rfl)
 rw[if_neg h2];have nr:=kP (Da x 4609176140021203710);refine Ev.AM h2 (Ev.bind (Ec h HK.2.2.2.2.2) (Ev.bind (xI (Da _ _)) (Ev.bind (Le nr.1 nr.2) (Ev.bind (Ec (Mp _) HK.2.2.2.1) (Ev.bind (RH h (Da _ _)) (Ev.bind (Ec (Mp _) HK.2.2.2.2.1) (Ev.bind (RH (N7 h) (Da _ _)) ?_)))))));exact nT (APp h) 13 0 (by omega)
section
abbrev R3:=Bool × List Int × List Int
def en (x:Rat):R3:=Rq x.num x.den
theorem den_pos (x:Rat):(0:Int)<x.den:=by have:=x.den_nz;omega
theorem Wb (S:Int) {D:Int} (hD:0<D):(Rat.divInt S D).num*D=S*(Rat.divInt S D).den:=by
 have e:=Rat.num_divInt_den (Rat.divInt S D);exact(Rat.divInt_eq_divInt_iff (by have:=den_pos (Rat.divInt S D);omega) (by omega)).1 e
theorem Vg (S:Int) {D:Int} (hD:0<D):en (Rat.divInt S D)=Rq S D:=WR (den_pos _) hD (Wb S hD)
theorem HM (x:Rat):Rat.divInt x.num x.den=x:=Rat.num_divInt_den x
def Bd (n:Int) (x:Rat):Prop:=Fb n x.num x.den
theorem Bd.mono {n m:Int} {x:Rat} (h:Bd n x) (hm:n<=m):Bd m x:=⟨h.1,AV5 h.2.1 hm,AV5 h.2.2 hm⟩
theorem Gh {n:Int} {x:Rat} (h:Bd n x) (hn:n<=14000):Fit x.num x.den:=AGU h hn
theorem Xd (x:Rat):gc (ab x.num) x.den=1:=by
 have h:=x.reduced;unfold gc;have e:(ab x.num).toNat=x.num.natAbs:=by unfold ab;split<;>omega
 rw[e,AUD]
 exact_mod_cast h
theorem bO {n S D:Int} (h:Fb n S D):Bd n (Rat.divInt S D):=by
 have c:=Wb S h.1;obtain⟨N,E,h1,h2,h3,h4,h5,h6,h7,h8⟩:=Q7 S h.1;have hx:=den_pos (Rat.divInt S D);generalize Rat.divInt S D=x at *;have g:=Xd x;have e:Rq x.num x.den=Rq S D:=WR hx h.1 c;obtain⟨N',E',k1,k2,k3,k4,k5,k6,k7,k8⟩:=Q7 x.num hx;rw[e,h1] at k1;simp only[AV6] at k1;obtain⟨_,e2,e3⟩:=k1;have e2:=sZ h2 k2 e2;have e3:=sZ (AUE h3) (AUE k3) e3;obtain⟨a1,a2⟩:ab x.num=N'/\(x.den:Int)=E':=by
  by_cases hz:x.num=0
  · have:(x.den:Int)=1:=by
     rw[hz,show ab 0=0 from rfl,K3,K7 (by omega)] at g;exact g
    have n0:N'=0:=k7.2 hz;refine⟨by rw[hz,n0];rfl,by omega⟩
  · have u1:Rq x.num x.den=(decide (x.num<0),dg (ab x.num/gc (ab x.num) x.den),dg ((x.den:Int)/gc (ab x.num) x.den)):=by unfold Rq;rw[if_neg hz]
    rw[g,AU9,AU9,e,h1] at u1;simp only[AV6] at u1;exact⟨by rw[<-e2];exact(sZ h2 (Dy _) u1.2.1).symm,by rw[<-e3];exact(sZ (AUE h3) (AUE hx) u1.2.2).symm⟩
 have b1:=Bq h4;have b2:=Bq h5;have hh:=h.2;exact⟨hx,by rw[a1,<-e2];omega,by rw[a2,<-e3];omega⟩
theorem kQ (x y:Rat):x+y=Rat.divInt (x.num*y.den+y.num*x.den) (x.den*y.den):=by
 conv=>lhs;rw[<-HM x,<-HM y]
 exact Rat.divInt_add_divInt _ _ (by have:=den_pos x;omega) (by have:=den_pos y;omega)
theorem AAq (x y:Rat):x-y=Rat.divInt (x.num*y.den-y.num*x.den) (x.den*y.den):=by
 conv=>lhs;rw[<-HM x,<-HM y]
 exact Rat.divInt_sub_divInt _ _ (by have:=den_pos x;omega) (by have:=den_pos y;omega)
theorem kR (x y:Rat):x*y=Rat.divInt (x.num*y.num) (x.den*y.den):=by
 conv=>lhs;rw[<-HM x,<-HM y]
 exact AXZ ..
theorem T8 (x y:Rat):(0:Int)<(x.den:Int)*y.den:=AU3 (den_pos x) (den_pos y)
theorem N8 {x:Rat} :x.num=0↔x=0:=Rat.num_eq_zero
theorem ALU {x:Int} (h:x≠0):0<ab x:=by have:=Dy x;have:= @RC x;omega
theorem inv_divInt (y:Rat) (hy:y≠0):y⁻¹ =Rat.divInt (IS y.num y.den) (ab y.num):=by
 conv=>lhs;rw[<-HM y]
 rw[Rat.inv_divInt];have hz:y.num≠0:=λk=>hy (N8.1 k)
 unfold IS FG ab;by_cases hs:y.num<0
 · rw[decide_eq_true hs,if_pos rfl,if_pos hs,Rat.neg_divInt_neg]
 · rw[decide_eq_false hs,if_neg (by decide),if_neg hs]
theorem kS (x y:Rat) (hy:y≠0):x/y=Rat.divInt (x.num*IS y.num y.den) (x.den*ab y.num):=by
 rw[Rat.div_def,inv_divInt y hy]
 conv=>lhs;rw[<-HM x]
 exact AXZ ..
theorem AGy {n:Int} {x:Rat} (h:Bd n x):Bd n (-x):=AGV h
theorem AGz {n m:Int} {x y:Rat} (h:Bd n x) (h':Bd m y):Bd (n+m+1) (x+y):=by
 rw[kQ];exact bO (AGW h h')
theorem ALV {n m:Int} {x y:Rat} (h:Bd n x) (h':Bd m y):Bd (n+m+1) (x-y):=by
 rw[Rat.sub_eq_add_neg];exact AGz h (AGy h')
theorem ALW {n m:Int} {x y:Rat} (h:Bd n x) (h':Bd m y):Bd (n+m) (x*y):=by
 rw[kR];exact bO (AGX h h')
theorem AG0 {n m:Int} {x y:Rat} (h:Bd n x) (h':Bd m y) (hy:y≠0):Bd (n+m) (x/y):=by
 rw[kS x y hy];exact bO (AGX h (AGY h' (λk=>hy (N8.1 k))))
variable {x y:Rat} {n m:Int}
theorem ADk (hx:Bd n x) (hn:n<=14000):Ev (λk=>L5.f k (en x).1 (en x).2.1 (en x).2.2) (en (-x)):=oq (Gh hx hn)
theorem xO (hx:Bd n x) (hn:n<=14000):Ev (λk=>J6.f k (en x).1 (en x).2.1 (en x).2.2) (en (-x)):=dB (Gh hx hn)
theorem AG1 (x y:Rat):Rq (x.num*y.den+y.num*x.den) (x.den*y.den)=en (x+y):=by rw[kQ,Vg _ (T8 x y)]
theorem AG2 (x y:Rat):Rq (x.num*y.den-y.num*x.den) (x.den*y.den)=en (x-y):=by rw[AAq,Vg _ (T8 x y)]
theorem AG3 (x y:Rat):Rq (x.num*y.num) (x.den*y.den)=en (x*y):=by rw[kR,Vg _ (T8 x y)]
theorem AG4 (x y:Rat) (hy:y≠0):Rq (x.num*IS y.num y.den) (x.den*ab y.num)=en (x/y):=by
 rw[kS x y hy,Vg];exact AU3 (den_pos x) (ALU λk=>hy (N8.1 k))
theorem oZ (hx:Bd n x) (hy:Bd m y) (hn:n<=14000) (hm:m<=14000):Ev (λk=>Ky.f k (en x).1 (en x).2.1 (en x).2.2 (en y).1 (en y).2.1 (en y).2.2) (en (x+y)):=Ev.WS (oo (Gh hx hn) (Gh hy hm)) (AG1 x y)
theorem xP (hx:Bd n x) (hy:Bd m y) (hn:n<=14000) (hm:m<=14000):Ev (λk=>J5.f k (en x).1 (en x).2.1 (en x).2.2 (en y).1 (en y).2.1 (en y).2.2) (en (x+y)):=Ev.WS (dD (Gh hx hn) (Gh hy hm)) (AG1 x y)
theorem ADl (hx:Bd n x) (hy:Bd m y) (hn:n<=14000) (hm:m<=14000):Ev (λk=>L6.f k (en x).1 (en x).2.1 (en x).2.2 (en y).1 (en y).2.1 (en y).2.2) (en (x-y)):=Ev.WS (ot (Gh hx hn) (Gh hy hm)) (AG2 x y)
theorem xQ (hx:Bd n x) (hy:Bd m y) (hn:n<=14000) (hm:m<=14000):Ev (λk=>J7.f k (en x).1 (en x).2.1 (en x).2.2 (en y).1 (en y).2.1 (en y).2.2) (en (x-y)):=Ev.WS (dF (Gh hx hn) (Gh hy hm)) (AG2 x y)
theorem ADm (hx:Bd n x) (hy:Bd m y) (hn:n<=14000) (hm:m<=14000):Ev (λk=>Kz.f k (en x).1 (en x).2.1 (en x).2.2 (en y).1 (en y).2.1 (en y).2.2) (en (x*y)):=Ev.WS (ou (Gh hx hn) (Gh hy hm)) (AG3 x y)
theorem xR (hx:Bd n x) (hy:Bd m y) (hn:n<=14000) (hm:m<=14000):Ev (λk=>MN.f k (en x).1 (en x).2.1 (en x).2.2 (en y).1 (en y).2.1 (en y).2.2) (en (x*y)):=Ev.WS (wT (Gh hx hn) (Gh hy hm)) (AG3 x y)
def qo (x y:Rat):Bool × List Int × List Int × Int:=if y=0 then(false,[],[],4) else((en (x/y)).1,(en (x/y)).2.1,(en (x/y)).2.2,0)
theorem pE (hx:Bd n x) (hy:Bd m y) (hn:n<=14000) (hm:m<=14000):Ev (λk=>L7.f k (en x).1 (en x).2.1 (en x).2.2 (en y).1 (en y).2.1 (en y).2.2) (qo x y):=by
 refine Ev.WS (ADe (Gh hx hn) (Gh hy hm)) ?_;unfold qo;by_cases hz:y=0
 · rw[if_pos (N8.2 hz),if_pos hz]
 · rw[if_neg (λk=>hz (N8.1 k)),if_neg hz,AG4 x y hz]
theorem dG (hx:Bd n x) (hy:Bd m y) (hn:n<=14000) (hm:m<=14000) (hz:y≠0):Ev (λk=>J4.f k (en x).1 (en x).2.1 (en x).2.2 (en y).1 (en y).2.1 (en y).2.2) (en (x/y)):=Ev.WS (wU (Gh hx hn) (Gh hy hm) (λk=>hz (N8.1 k))) (AG4 x y hz)
theorem ZB (x:Rat):G6.f (en x).1 (en x).2.1 (en x).2.2=some (decide (x=0)):=by
 have h:=r6 (S:=x.num) (den_pos x);rw[show decide (x.num=0)=decide (x=0) from decide_eq_decide.2 N8] at h;exact h
theorem Yo (x:Rat):en x=(decide (x.num<0),dg (ab x.num),dg x.den):=by
 unfold en Rq;by_cases hz:x.num=0
 · have g:=Xd x
   rw[hz,show ab 0=0 from rfl,K3,K7 (by have:=den_pos x;omega)] at g;rw[if_pos hz,hz,g,show ab 0=0 from rfl,IZ,kD];rfl
 · rw[if_neg hz,Xd,AU9,AU9]
end
abbrev I6:=Int × Int × Int × Bool × List Int × List Int
theorem g6 {α:Type} {l:List α} {d:α} {i:Nat} (h:i<l.length):l.getD i d=l[i]:=by
 rw[AUF,AUT h];rfl
theorem AFO {P:Nat->Prop} {n i:Nat} (h:i<n):(∀j,i<=j->j<n->P j)↔P i/\ ∀j,i+1<=j->j<n->P j :=
 ⟨λk=>⟨k i (by omega) h,λj h1 h2=>k j (by omega) h2⟩,λk j h1 h2=>by
   rcases(show j=i\/i+1<=j by omega) with rfl | h3
   · exact k.1
   · exact k.2 j h3 h2⟩
def BdL (n:Int) (l:List Rat):Prop:= ∀x∈l,Bd n x
theorem BdL.mono {n m:Int} {l:List Rat} (h:BdL n l) (hm:n<=m):BdL m l:=λx hx=>(h x hx).mono hm
theorem AFQ {n:Int} {x:Rat} (h:Bd n x) (hn:n<=60000):(en x).2.1.length<=1000/\(en x).2.2.length<=1000:=by
 rw[Yo];have a:=AN (ab x.num);have b:=AN (x.den:Int);have:=h.2;dsimp only;omega
theorem ADn {b:Int} (hb:U b) : ∃w,U w/\Ev (λk=>Ca.f k b) w/\Ev (λk=>Bl.f k b) w:=by
 by_cases h4:fk b=4
 · exact⟨gB,cu,WY hb (.inl h4),Wa hb (.inl h4)⟩
 · by_cases h0:fk b=0
   · exact⟨b,hb,Sq hb (.inl h0),Sr hb (.inl h0)⟩
   · cases hs:fs b
     · by_cases h3:fk b=3
       · exact⟨b,hb,Sq hb (.inr ⟨h3,hs⟩),Sr hb (.inr ⟨h3,hs⟩)⟩
       · have hz:pm b≠0:=λk=>h0 ((Oo b).2.2.2.1.2 ⟨I0 h4 h3,k⟩)
         have hp:=CP b;obtain⟨w,hw⟩:=AIk (show 0<pm b by omega) (pe b);have hU:U w:=by
          obtain⟨up,c,r,_,_,_,e⟩:=hw;rw[e];have:=N5 (sv (pm b*2^up) r) c;unfold YC at this;unfold U;omega
         exact⟨w,hU,sJ hb h4 h3 h0 hs hw,sL hb h4 h3 h0 hs hw⟩
     · exact⟨gB,cu,WY hb (.inr ⟨h0,hs⟩),Wa hb (.inr ⟨h0,hs⟩)⟩
theorem AIt (f k:Int):U (Ow f k):=by
 unfold Ow;split
 · exact ADj f
 · exact Hl (Da _ _) (Hl (ADj f) (Da _ _))
theorem ALX {x:Int} (h:U x):U (AAp x):=by
 unfold AAp;split
 · exact kE true
 · split
   · exact cu
   · split
     · exact h
     · exact AIt _ _
theorem ALY (x:Int):U (AAo x):=by
 unfold AAo;split
 · exact cu
 · split
   · unfold U YC;omega
   · split
     · unfold U;omega
     · exact AGj (AGr _ _ (Ia _)) _
theorem AS9 (neg:Bool) (N D:Int):U (fR neg N D):=by
 unfold fR;split
 · unfold U;omega
 · have h:0<=fq N D/\fq N D<=YC:=by
    unfold fq;split
    · unfold YC;omega
    · split
      · unfold YC;omega
      · exact N5 _ _
   exact(Lc h.1 (by have:=h.2;unfold YC at this;omega) neg).1
theorem ATA {b:Int} (h:U b):U (cl b):=by
 unfold cl;split
 · exact cu
 · exact h
def fz (sq:Int->Int):Prop:= ∀b,U b->U (sq b)/\Ev (λk=>Ca.f k b) (sq b)/\Ev (λk=>Bl.f k b) (sq b)
theorem AIC : ∃sq,fz sq:=by
 have : ∀b:Int,∃w,U b->U w/\Ev (λk=>Ca.f k b) w/\Ev (λk=>Bl.f k b) w:=λb=>by
  by_cases h:U b
  · obtain⟨w,hw⟩:=ADn h
    exact⟨w,λ_=>hw⟩
  · exact⟨0,λk=>absurd k h⟩
 exact⟨λb=>Classical.choose (this b),λb=>Classical.choose_spec (this b)⟩
def fdo (sq:Int->Int) (op a b:Int):Int:=if op=3 then fl a else if op=4 then QM a b else if op=5 then wW a b else if op=6 then NU a b else if op=7 then fdiv a b else if op=8 then sq a else if op=9 then AAo a else AAp a
theorem APq {sq:Int->Int} (hq:fz sq) {op a b:Int} (ha:U a) (hb:U b):U (fdo sq op a b):=by
 unfold fdo
 repeat' split
 · exact AIc a
 · exact Hl ha hb
 · exact N7 ha
 · exact Da a b
 · exact XY a b
 · exact(hq a ha).1
 · exact ALY a
 · exact ALX ha
theorem kT {sq:Int->Int} (hq:fz sq) {op a b:Int} (ua:U a) (ub:U b):Ev (λk=>Iw.f k op a b) (fdo sq op a b):=by
 unfold fdo;by_cases h3:op=3
 · rw[if_pos h3];exact Ev.AK h3 (Ev.AP (Yy ua) (Ev.same rfl))
 rw[if_neg h3];refine Ev.AM h3 ?_;by_cases h3:op=4
 · rw[if_pos h3];exact Ev.AK h3 (Ev.bind (GN ua ub) (Ev.same rfl))
 rw[if_neg h3];refine Ev.AM h3 ?_;by_cases h3:op=5
 · rw[if_pos h3];exact Ev.AK h3 (Ev.bind (Ov ua ub) (Ev.same rfl))
 rw[if_neg h3];refine Ev.AM h3 ?_;by_cases h3:op=6
 · rw[if_pos h3];exact Ev.AK h3 (Ev.bind (Ed ua ub) (Ev.same rfl))
 rw[if_neg h3];refine Ev.AM h3 ?_;by_cases h3:op=7
 · rw[if_pos h3];exact Ev.AK h3 (Ev.bind (T7 ua ub) (Ev.same rfl))
 rw[if_neg h3];refine Ev.AM h3 ?_;by_cases h3:op=8
 · rw[if_pos h3];exact Ev.AK h3 (Ev.bind (hq _ ua).2.2 (Ev.same rfl))
 rw[if_neg h3];refine Ev.AM h3 ?_;by_cases h3:op=9
 · rw[if_pos h3];exact Ev.AK h3 (Ev.bind (xM ua) (Ev.same rfl))
 rw[if_neg h3];exact Ev.AM h3 (Ev.bind (xK ua) (Ev.same rfl))
abbrev V5:=(Bool × List Int × List Int) × Int × Int
abbrev BT:=Int × Int × List I6 × List Bool × List Bool × Int × Int × Bool × Int
abbrev RT5:=Int × Int × Int × List Bool × Bool
def BS (m:Int) (met:List Bool) (n:Int) (tie:Bool) (e:Int):BT:=(m,0,[],[],met,0,n,tie,e)
def RS (m:Int) (met:List Bool) (n:Int) (tie:Bool) (e:Int):RT5:=(m,e,n,met,tie)
def wv {S:Type} (v:V5) (s:S):Bool × List Int × List Int × Int × Int × S:=(v.1.1,v.1.2.1,v.1.2.2,v.2.1,v.2.2,s)
def zV:V5:=((false,[],[]),0,0)
def YB (c m:Int) (v:V5):Prop:=(m=0/\ ∃q,Bd c q/\v=(en q,0,0))\/(m=1/\ ∃b,U b/\v=((false,[],[]),b,0))
def Res (m:Int) (v:V5) (e:Int):Prop:=(e=0/\YB 6000 m v)\/(e≠0/\v=zV)
theorem GH (m i:Int) (p:List I6) (ak met:List Bool) (ad n:Int) (tie:Bool) (e:Int):Ev (λk=>Bh.f k m i p ak met ad n tie e) (!(e==0),m,i,p,ak,met,ad,n,tie,e):=⟨0,λ_ _=>rfl⟩
theorem kU (m i:Int) (p:List I6) (ak met:List Bool) (ad n:Int) (tie:Bool) (x:Int):Ev (λk=>BU.f k m i p ak met ad n tie 0 x) (m,i,p,ak,met,ad,n,tie,x):=⟨0,λ_ _=>rfl⟩
theorem nf0 : ¬(!((0:Int)==0))=true:=by decide
theorem AIu : ¬(1:Int)=0:=by decide
theorem U_0:U 0:=by unfold U;decide
theorem AFT {p:Int} :Rq p 1=en (p:Rat):=by
 unfold en;simp
theorem ji {p:Int} (h0 : -9223372036854775808<=p) (h1:p<=9223372036854775807):Bd 64 (p:Rat):=by
 unfold Bd Fb;rw[Rat.num_intCast,Rat.den_intCast];refine⟨by decide,Sn ?_,Sn (by decide)⟩;unfold ab;split<;>omega
def g7 (p:Int):Prop:= -9223372036854775808<=p/\p<=9223372036854775807
theorem XQ {m:Int} {met:List Bool} {n:Int} {tie:Bool} {p q:Int} (hp:g7 p) (hq:g7 q) :
 (q≠0->Ev (λk=>CU.f k m 0 [] [] met 0 n tie 0 p q) ((en ((p:Rat)/(q:Rat))).1,(en ((p:Rat)/(q:Rat))).2.1,(en ((p:Rat)/(q:Rat))).2.2,BS m met n tie 0)) /\
 (q=0->Ev (λk=>CU.f k m 0 [] [] met 0 n tie 0 p q) (false,[],[],BS m met n tie 4)):=by
 have e1:=wS hq.1 hq.2;have e2:=wS hp.1 hp.2;rw[AFT] at e1 e2;have e3:=pE (ji hp.1 hp.2) (ji hq.1 hq.2) (by omega) (by omega);refine⟨λh=> ?_,λh=> ?_⟩
 · have hz : ¬(q:Rat)=0:=λz=>h (by exact_mod_cast z)
   rw[qo,if_neg hz] at e3;exact Ev.bind e1 (Ev.bind e2 (Ev.bind e3 (Ev.bind (kU _ _ _ _ _ _ _ _ _) (Ev.same rfl))))
 · subst h
   rw[qo,if_pos (by rfl)] at e3;exact Ev.bind e1 (Ev.bind e2 (Ev.bind e3 (Ev.bind (kU _ _ _ _ _ _ _ _ _) (Ev.same rfl))))
theorem APr {m:Int} {met:List Bool} {n:Int} {tie:Bool} {p q:Int} (hp:g7 p) (hq:g7 q) :
 (q≠0->Ev (λk=>IK.f k m 0 n met tie p q) ((en ((p:Rat)/(q:Rat))).1,(en ((p:Rat)/(q:Rat))).2.1,(en ((p:Rat)/(q:Rat))).2.2,RS m met n tie 0)) /\
 (q=0->Ev (λk=>IK.f k m 0 n met tie p q) (false,[],[],RS m met n tie 4)):=by
 have e1:=Q2 hq.1 hq.2;have e2:=Q2 hp.1 hp.2;rw[AFT] at e1 e2;refine⟨λh=> ?_,λh=>Ev.AK h (Ev.same rfl)⟩;have hz : ¬(q:Rat)=0:=λz=>h (by exact_mod_cast z)
 have e3:=dG (ji hp.1 hp.2) (ji hq.1 hq.2) (by omega) (by omega) hz;exact Ev.AM h (Ev.bind e2 (Ev.bind e1 (Ev.bind e3 (Ev.same rfl))))
theorem AAN {p q:Int} (hp:g7 p) (hq:g7 q) (h:q≠0):Bd 128 ((p:Rat)/(q:Rat)):=AG0 (ji hp.1 hp.2) (ji hq.1 hq.2) (λz=>h (by exact_mod_cast z))
theorem AG5 {x:Rat} (h:Bd 128 x):(en x).2.1.length<=30/\(en x).2.2.length<=30:=by
 rw[Yo];have a:=AN (ab x.num);have b:=AN (x.den:Int);have:=h.2;dsimp only;omega
theorem sj {x:Rat} (h:Bd 128 x) : ∃w,U w/\Ev (λk=>CJ.f k (en x).1 (en x).2.1 (en x).2.2) w/\Ev (λk=>GL.f k (en x).1 (en x).2.1 (en x).2.2) w:=by
 obtain⟨l1,l2,w1,w2⟩:=ALK (Gh h (by omega));have hp:=Yo x;have hd:0<nv (en x).2.2:=by
  rw[hp];show 0<nv (dg x.den);rw[AR (by omega)];exact den_pos x
 have l30:(en x).2.1.length<=30/\(en x).2.2.length<=30:=AG5 h;have hc:dg (nv (en x).2.1)=(en x).2.1:=by
  rw[hp];show dg (nv (dg (ab x.num)))=dg (ab x.num);rw[AR (by unfold ab;split<;>omega)]
 exact⟨_,AS9 _ _ _,bN _ w1 w2 l30.1 l30.2 hd,gC _ w1 w2 l30.1 l30.2 hd hc⟩
theorem AG6 {m:Int} (hm:m=0\/m=1) {met:List Bool} {n:Int} {tie:Bool} {p q b:Int} (hp:g7 p) (hq:g7 q) (hb:U b) :
 ∃v e,Ev (λk=>CR.f k m 0 [] [] met 0 n tie 0 p q b) (wv v (BS m met n tie e))/\Ev (λk=>Iu.f k m 0 n met tie p q b) (wv v (RS m met n tie e))/\Res m v e:=by
 rcases hm with rfl | rfl
 · obtain⟨a1,a2⟩:=XQ (m:=0) (met:=met) (n:=n) (tie:=tie) hp hq
   obtain⟨b1,b2⟩:=APr (m:=0) (met:=met) (n:=n) (tie:=tie) hp hq;by_cases h:q=0
   · exact⟨zV,4,Ev.bind (GH _ _ _ _ _ _ _ _ _) (Ev.AM nf0 (Ev.AK rfl (Ev.bind (a2 h) (Ev.same rfl)))),Ev.AK rfl (Ev.AM (by decide) (Ev.bind (b2 h) (Ev.same rfl))), .inr ⟨by decide,rfl⟩⟩
   · exact⟨(en ((p:Rat)/(q:Rat)),0,0),0,Ev.bind (GH _ _ _ _ _ _ _ _ _) (Ev.AM nf0 (Ev.AK rfl (Ev.bind (a1 h) (Ev.same rfl)))),Ev.AK rfl (Ev.AM (by decide) (Ev.bind (b1 h) (Ev.same rfl))), .inl ⟨rfl, .inl ⟨rfl,_,(AAN hp hq h).mono (by omega),rfl⟩⟩⟩
 · exact⟨((false,[],[]),cl b,0),0,Ev.bind (GH _ _ _ _ _ _ _ _ _) (Ev.AM nf0 (Ev.AM AIu (Ev.AK rfl (Ev.AP (WT hb) (Ev.same rfl))))),Ev.AK rfl (Ev.AK rfl (Ev.AP (WW hb) (Ev.same rfl))), .inl ⟨rfl, .inr ⟨rfl,_,ATA hb,rfl⟩⟩⟩
theorem AG7 {m:Int} (hm:m=0\/m=1) {met:List Bool} {n:Int} {tie:Bool} {p q:Int} (hp:g7 p) (hq:g7 q) :
 ∃v e,Ev (λk=>DW.f k m 0 [] [] met 0 n tie 0 p q) (wv v (BS m met n tie e))/\Ev (λk=>Iv.f k m 0 n met tie p q) (wv v (RS m met n tie e))/\Res m v e:=by
 obtain⟨a1,a2⟩:=XQ (m:=m) (met:=met) (n:=n) (tie:=tie) hp hq;obtain⟨b1,b2⟩:=APr (m:=m) (met:=met) (n:=n) (tie:=tie) hp hq;by_cases h:q=0
 · exact⟨zV,4,Ev.bind (GH _ _ _ _ _ _ _ _ _) (Ev.AM nf0 (Ev.bind (a2 h) (Ev.AM (show¬(4:Int)=0 by decide) (Ev.same rfl)))),Ev.AK rfl (Ev.bind (b2 h) (Ev.AM (show¬(4:Int)=0 by decide) (Ev.same rfl))), .inr ⟨by decide,rfl⟩⟩
 · have hB:=AAN hp hq h
   rcases hm with rfl | rfl
   · exact⟨(en ((p:Rat)/(q:Rat)),0,0),0,Ev.bind (GH _ _ _ _ _ _ _ _ _) (Ev.AM nf0 (Ev.bind (a1 h) (Ev.AK rfl (Ev.AK rfl (Ev.same rfl))))),Ev.AK rfl (Ev.bind (b1 h) (Ev.AK rfl (Ev.AM (show¬(0:Int)=1 by decide) (Ev.same rfl)))), .inl ⟨rfl, .inl ⟨rfl,_,hB.mono (by omega),rfl⟩⟩⟩
   · obtain⟨w,uw,f1,f2⟩:=sj hB
     exact⟨((false,[],[]),w,0),0,Ev.bind (GH _ _ _ _ _ _ _ _ _) (Ev.AM nf0 (Ev.bind (a1 h) (Ev.AK rfl (Ev.AM (show¬(1:Int)=0 by decide) (Ev.AK rfl (Ev.bind f1 (Ev.same rfl))))))),Ev.AK rfl (Ev.bind (b1 h) (Ev.AK rfl (Ev.AK rfl (Ev.bind f2 (Ev.same rfl))))), .inl ⟨rfl, .inr ⟨rfl,w,uw,rfl⟩⟩⟩
theorem nU {sq:Int->Int} (hq:fz sq) {op a b:Int} (ua:U a) (ub:U b):Ev (λk=>Ir.f k op a b) (fdo sq op a b):=by
 unfold fdo;by_cases h3:op=3
 · rw[if_pos h3];exact Ev.AK h3 (Ev.AP (Yv ua) (Ev.same rfl))
 rw[if_neg h3];refine Ev.AM h3 ?_;by_cases h3:op=4
 · rw[if_pos h3];exact Ev.AK h3 (Ev.bind (Hq ua ub) (Ev.same rfl))
 rw[if_neg h3];refine Ev.AM h3 ?_;by_cases h3:op=5
 · rw[if_pos h3];exact Ev.AK h3 (Ev.bind (RH ua ub) (Ev.same rfl))
 rw[if_neg h3];refine Ev.AM h3 ?_;by_cases h3:op=6
 · rw[if_pos h3];exact Ev.AK h3 (Ev.bind (Ec ua ub) (Ev.same rfl))
 rw[if_neg h3];refine Ev.AM h3 ?_;by_cases h3:op=7
 · rw[if_pos h3];exact Ev.AK h3 (Ev.bind (T6 ua ub) (Ev.same rfl))
 rw[if_neg h3];refine Ev.AM h3 ?_;by_cases h3:op=8
 · rw[if_pos h3];exact Ev.AK h3 (Ev.bind (hq _ ua).2.1 (Ev.same rfl))
 rw[if_neg h3];refine Ev.AM h3 ?_;by_cases h3:op=9
 · rw[if_pos h3];exact Ev.AK h3 (Ev.bind (sY ua) (Ev.same rfl))
 rw[if_neg h3];exact Ev.AM h3 (Ev.bind (sU ua) (Ev.same rfl))
theorem AIv {sq:Int->Int} {op a b b':Int} (h : ¬(4<=op/\op<=7)):fdo sq op a b=fdo sq op a b':=by
 unfold fdo;by_cases h3:op=3
 · rw[if_pos h3,if_pos h3]
 have n4 : ¬op=4:=by omega
 have n5 : ¬op=5:=by omega
 have n6 : ¬op=6:=by omega
 have n7 : ¬op=7:=by omega
 rw[if_neg h3,if_neg h3,if_neg n4,if_neg n4,if_neg n5,if_neg n5,if_neg n6,if_neg n6,if_neg n7,if_neg n7]
theorem AAr {op:Int} (h0:3<=op) (h1:op<=10) {x:Rat} {y y':R3} (hx:Bd 2560 x) (hy:4<=op/\op<=7->y'=y/\ ∃q,Bd 2560 q/\y=en q) {met:List Bool} {n n':Int} {tie:Bool} :
 ∃(r:R3) (e:Int),Ev (λk=>Ey.f k 0 0 [] [] met 0 n tie 0 op (en x).1 (en x).2.1 (en x).2.2 y.1 y.2.1 y.2.2) (r.1,r.2.1,r.2.2,BS 0 met n tie e) /\
  Ev (λk=>Hi.f k 0 0 n' met tie op (en x).1 (en x).2.1 (en x).2.2 y'.1 y'.2.1 y'.2.2) (r.1,r.2.1,r.2.2,RS 0 met n' tie e)/\((e=0/\ ∃q,Bd 6000 q/\r=en q)\/(e≠0/\r=(false,[],[]))):=by
 by_cases h3:op=3
 · exact⟨en (-x),0,Ev.AK h3 (Ev.bind (ADk hx (by omega)) (Ev.same rfl)),Ev.AK h3 (Ev.bind (xO hx (by omega)) (Ev.same rfl)), .inl ⟨rfl,_,(AGy hx).mono (by omega),rfl⟩⟩
 by_cases h7:7<op
 · exact⟨(false,[],[]),6,Ev.AM h3 (Ev.AM (by omega) (Ev.AM (by omega) (Ev.AM (by omega) (Ev.AM (by omega) (Ev.bind (kU _ _ _ _ _ _ _ _ _) (Ev.same rfl)))))),Ev.AM h3 (Ev.AM (by omega) (Ev.AM (by omega) (Ev.AM (by omega) (Ev.AK (by omega) (Ev.same rfl))))), .inr ⟨by decide,rfl⟩⟩
 obtain⟨rfl,q,hq,rfl⟩:=hy ⟨by omega,by omega⟩;by_cases h4:op=4
 · exact⟨en (x+q),0,Ev.AM h3 (Ev.AK h4 (Ev.bind (oZ hx hq (by omega) (by omega)) (Ev.same rfl))),Ev.AM h3 (Ev.AK h4 (Ev.bind (xP hx hq (by omega) (by omega)) (Ev.same rfl))), .inl ⟨rfl,_,(AGz hx hq).mono (by omega),rfl⟩⟩
 by_cases h5:op=5
 · exact⟨en (x-q),0,Ev.AM h3 (Ev.AM h4 (Ev.AK h5 (Ev.bind (ADl hx hq (by omega) (by omega)) (Ev.same rfl)))),Ev.AM h3 (Ev.AM h4 (Ev.AK h5 (Ev.bind (xQ hx hq (by omega) (by omega)) (Ev.same rfl)))), .inl ⟨rfl,_,(ALV hx hq).mono (by omega),rfl⟩⟩
 by_cases h6:op=6
 · exact⟨en (x*q),0,Ev.AM h3 (Ev.AM h4 (Ev.AM h5 (Ev.AK h6 (Ev.bind (ADm hx hq (by omega) (by omega)) (Ev.same rfl))))),Ev.AM h3 (Ev.AM h4 (Ev.AM h5 (Ev.AK h6 (Ev.bind (xR hx hq (by omega) (by omega)) (Ev.same rfl))))), .inl ⟨rfl,_,(ALW hx hq).mono (by omega),rfl⟩⟩
 have h8:op=7:=by omega
 have D:=pE hx hq (by omega) (by omega);by_cases hz:q=0
 · rw[qo,if_pos hz] at D
   refine⟨(false,[],[]),4,Ev.AM h3 (Ev.AM h4 (Ev.AM h5 (Ev.AM h6 (Ev.AK h8 (Ev.bind D (Ev.bind (kU _ _ _ _ _ _ _ _ _) (Ev.same rfl))))))),Ev.AM h3 (Ev.AM h4 (Ev.AM h5 (Ev.AM h6 (Ev.AM (by omega) (Ev.AP (ZB q) (Ev.AK (decide_eq_true hz) (Ev.same rfl))))))), .inr ⟨by decide,rfl⟩⟩
 · rw[qo,if_neg hz] at D
   refine⟨en (x/q),0,Ev.AM h3 (Ev.AM h4 (Ev.AM h5 (Ev.AM h6 (Ev.AK h8 (Ev.bind D (Ev.bind (kU _ _ _ _ _ _ _ _ _) (Ev.same rfl))))))),Ev.AM h3 (Ev.AM h4 (Ev.AM h5 (Ev.AM h6 (Ev.AM (by omega) (Ev.AP (ZB q) (Ev.AM (by simpa using hz) (Ev.bind (dG hx hq (by omega) (by omega) hz) (Ev.same rfl)))))))), .inl ⟨rfl,_,(AG0 hx hq hz).mono (by omega),rfl⟩⟩
theorem ACs {sq:Int->Int} (mz:fz sq) {m:Int} (hm:m=0\/m=1) {op:Int} (h0:3<=op) (h1:op<=10) {x y y':V5} (hx:YB 2560 m x) (hy:4<=op/\op<=7->y'=y/\YB 2560 m y) (hU:m=1->U y.2.1/\U y'.2.1) {met:List Bool} {n:Int} {tie two:Bool} (hn:0<=n/\n<=1000000) :
 ∃v e n',Ev (λk=>AO.f k m 0 [] [] met 0 n tie 0 op x.1.1 x.1.2.1 x.1.2.2 x.2.1 x.2.2 y.1.1 y.1.2.1 y.1.2.2 y.2.1 y.2.2 two) (wv v (BS m met n' tie e)) /\
  Ev (λk=>DT.f k m 0 n met tie op x.1.1 x.1.2.1 x.1.2.2 x.2.1 x.2.2 y'.1.1 y'.1.2.1 y'.1.2.2 y'.2.1 y'.2.2) (wv v (RS m met n' tie e))/\Res m v e/\0<=n'/\n'<=n+1:=by
 have w1:wrap64 (n+1)=n+1:=by rw[AG (by omega) (by omega)]
 have w2:wrap64 (n+1-1)=n:=by rw[AG (by omega) (by omega)];omega
 rcases hm with rfl | rfl
 · obtain⟨q,bq,rfl⟩ : ∃q,Bd 2560 q/\x=(en q,0,0):=by
    rcases hx with⟨_,h⟩ | ⟨h,_⟩
    · exact h
    · exact absurd h (by decide)
   obtain⟨r,e,E1,E2,hr⟩:=AAr (y:=y.1) (y':=y'.1) (met:=met) (n:=n+1) (n':=n) (tie:=tie) h0 h1 bq (λh=>by
    obtain⟨rfl,h2⟩:=hy h;rcases h2 with⟨_,q2,b2,rfl⟩ | ⟨h2,_⟩
    · exact⟨rfl,q2,b2,rfl⟩
    · exact absurd h2 (by decide))
   rcases hr with⟨rfl,q',b',rfl⟩ | ⟨he,rfl⟩
   · refine⟨(en q',0,0),0,n+1,Ev.bind (GH _ _ _ _ _ _ _ _ _) (Ev.AM nf0 (Ev.AK rfl ?_)),Ev.AK rfl (Ev.AM (by decide) (Ev.bind E2 (Ev.step (λk=>DT.j7.eq_2 ..) (Ev.AK rfl (Ev.same ?_))))), .inl ⟨rfl, .inl ⟨rfl,q',b',rfl⟩⟩,by omega,by omega⟩
     · dsimp only
       rw[w1];exact Ev.bind E1 (Ev.step (λk=>AO.j15.eq_2 ..) (Ev.AK rfl (Ev.same rfl)))
     · dsimp only[RS,wv]
       rw[w1]
   · refine⟨zV,e,n,Ev.bind (GH _ _ _ _ _ _ _ _ _) (Ev.AM nf0 (Ev.AK rfl ?_)), ?_, .inr ⟨he,rfl⟩,by omega,by omega⟩
     · dsimp only
       rw[w1];refine Ev.bind E1 (Ev.step (λk=>AO.j15.eq_2 ..) (Ev.AM he (Ev.same ?_)));dsimp only[BS,wv,zV];rw[w2]
     · exact Ev.AK rfl (Ev.AM (by decide) (Ev.bind E2 (Ev.step (λk=>DT.j7.eq_2 ..) (Ev.AM he (Ev.same rfl)))))
 · obtain⟨b,ub,rfl⟩ : ∃b,U b/\x=((false,[],[]),b,0):=by
    rcases hx with⟨h,_⟩ | ⟨_,h⟩
    · exact absurd h (by decide)
    · exact h
   obtain⟨u1,u2⟩:=hU rfl;have E1:=nU mz (op:=op) ub u1;have E2:=kT mz (op:=op) ub u2;have ee:fdo sq op b y'.2.1=fdo sq op b y.2.1:=by
    by_cases h:4<=op/\op<=7
    · rw[(hy h).1]
    · exact AIv h
   rw[ee] at E2;refine⟨((false,[],[]),fdo sq op b y.2.1,0),0,n+1,Ev.bind (GH _ _ _ _ _ _ _ _ _) (Ev.AM nf0 (Ev.AM AIu (Ev.AK rfl (Ev.bind E1 (Ev.step (λk=>AO.j15.eq_2 ..) (Ev.AK rfl (Ev.same ?_))))))),Ev.AK rfl (Ev.AK rfl (Ev.bind E2 (Ev.step (λk=>DT.j7.eq_2 ..) (Ev.AK rfl (Ev.same ?_))))), .inl ⟨rfl, .inr ⟨rfl,_,APq mz ub u1,rfl⟩⟩,by omega,by omega⟩
   · dsimp only[BS,wv]
     rw[w1]
   · dsimp only[RS,wv]
     rw[w1]
theorem sk {m e n:Int} {met:List Bool} {b t:Bool} (hl:met.length<=1000000):Ev (λk=>BZ.j11 k b m e n met t) (b,m,e,n,met++ [b],t) :=
 Ev.step (λk=>BZ.j11.eq_2 ..) (Ev.AK (by omega) (Ev.same rfl))
theorem ACt {m e n:Int} {met:List Bool} {b c tie:Bool} (hl:met.length<=1000000):Ev (λk=>BZ.j10 k b c m e n met tie) (b,m,e,n,met++ [b],if tie=true then true else if b=true then false else !c):=by
 refine Ev.step (λk=>BZ.j10.eq_2 ..) ?_;by_cases h:tie=true
 · rw[if_pos h];exact Ev.AK h (sk hl)
 rw[if_neg h];refine Ev.AM h ?_;by_cases h2:b=true
 · rw[if_pos h2];exact Ev.AK h2 (sk hl)
 · rw[if_neg h2];exact Ev.AM h2 (sk hl)
theorem T9 {m n:Int} {met:List Bool} {b t:Bool} (hl:met.length<=1000000):Ev (λk=>Am.j18 k b m 0 [] [] met 0 n t 0) (b,BS m (met++ [b]) n t 0) :=
 Ev.step (λk=>Am.j18.eq_2 ..) (Ev.AK rfl (Ev.AK (by omega) (Ev.same rfl)))
theorem ADo {m:Int} (hm:m=0\/m=1) {x y:V5} (hx:YB 2560 m x) (hy:YB 2560 m y) {met:List Bool} {n:Int} {tie:Bool} (hl:met.length<=1000) :
 ∃b t,Ev (λk=>Am.f k m 0 [] [] met 0 n tie 0 x.1.1 x.1.2.1 x.1.2.2 x.2.1 x.2.2 y.1.1 y.1.2.1 y.1.2.2 y.2.1 y.2.2) (b,BS m (met++ [b]) n t 0) /\
  Ev (λk=>BZ.f k m 0 n met tie x.1.1 x.1.2.1 x.1.2.2 x.2.1 x.2.2 y.1.1 y.1.2.1 y.1.2.2 y.2.1 y.2.2) (b,RS m (met++ [b]) n t 0):=by
 have hl2:met.length<=1000000:=by omega
 rcases hm with rfl | rfl
 · obtain⟨p,bp,rfl⟩ : ∃q,Bd 2560 q/\x=(en q,0,0):=by
    rcases hx with⟨_,h⟩ | ⟨h,_⟩
    · exact h
    · exact absurd h (by decide)
   obtain⟨q,bq,rfl⟩ : ∃q,Bd 2560 q/\y=(en q,0,0):=by
    rcases hy with⟨_,h⟩ | ⟨h,_⟩
    · exact h
    · exact absurd h (by decide)
   have fp:=Gh bp (by omega);have fq:=Gh bq (by omega);have fs:Fit (p.num*q.den-q.num*p.den) (p.den*q.den):=by
    have:=AGW bp (AGV bq);rw[AVX,<-Int.sub_eq_add_neg] at this;exact AGU this (by omega)
   have C:=ADf fp fq fs;have C2:=xS fp fq;have L0:=NW U_0 U_0;generalize AAf (p.num*q.den-q.num*p.den)=c at *;have et:(if tie=true then true else if(decide (c<0))=true then false else !(decide (c>0)))=if tie=true then true else c==0:=by
    by_cases h:tie=true
    · rw[if_pos h,if_pos h]
    · rw[if_neg h,if_neg h]
      by_cases h1:c<0
      · rw[decide_eq_true h1,if_pos rfl]
        exact(beq_eq_false_iff_ne.2 (by omega)).symm
      · rw[decide_eq_false h1,if_neg (by decide)]
        by_cases h2:c>0
        · rw[decide_eq_true h2]
          exact(beq_eq_false_iff_ne.2 (by omega)).symm
        · rw[decide_eq_false h2]
          exact(beq_iff_eq.2 (by omega)).symm
   refine⟨decide (c<0),if tie=true then true else c==0,Ev.bind (GH _ _ _ _ _ _ _ _ _) (Ev.AM nf0 (Ev.AM (by dsimp only;omega) (Ev.AK rfl (Ev.bind C ?_)))),Ev.AK rfl (Ev.AM (by omega) (Ev.bind L0 (Ev.bind L0 (Ev.AK rfl (Ev.bind C2 ?_)))))⟩
   · by_cases h:tie=true
     · rw[if_pos h];exact Ev.AK h (T9 hl2)
     · rw[if_neg h];exact Ev.AM h (T9 hl2)
   · rw[<-et]
     exact ACt hl2
 · obtain⟨p,bp,rfl⟩ : ∃b,U b/\x=((false,[],[]),b,0):=by
    rcases hx with⟨h,_⟩ | ⟨_,h⟩
    · exact absurd h (by decide)
    · exact h
   obtain⟨q,bq,rfl⟩ : ∃b,U b/\y=((false,[],[]),b,0):=by
    rcases hy with⟨h,_⟩ | ⟨_,h⟩
    · exact absurd h (by decide)
    · exact h
   refine⟨less p q,if tie=true then true else if less p q=true then false else !(less q p),Ev.bind (GH _ _ _ _ _ _ _ _ _) (Ev.AM nf0 (Ev.AM (by dsimp only;omega) (Ev.AM AIu (Ev.AK rfl (Ev.AP (MR bp bq) ?_))))),Ev.AK rfl (Ev.AM (by omega) (Ev.bind (NW bp bq) (Ev.bind (NW bq bp) (Ev.AM AIu (ACt hl2)))))⟩;by_cases h:tie=true
   · rw[if_pos h];exact Ev.AK h (T9 hl2)
   rw[if_neg h];refine Ev.AM h ?_;by_cases h2:less p q=true
   · rw[if_pos h2];exact Ev.AK h2 (T9 hl2)
   · rw[if_neg h2];exact Ev.AM h2 (Ev.AP (MR bq bp) (T9 hl2))
section
theorem APs {c m:Int} {v:V5} (h:YB c m v):U v.2.1:=by
 rcases h with⟨_,q,_,rfl⟩ | ⟨_,b,hb,rfl⟩
 · exact U_0
 · exact hb
theorem ADp {sq:Int->Int} (mz:fz sq) {m:Int} (hm:m=0\/m=1) {op:Int} (h0:3<=op) (h1:op<=10) {x y:V5} (hx:YB 2560 m x) (hy:4<=op/\op<=7->YB 2560 m y) (hU:U y.2.1) {met:List Bool} {n:Int} {tie:Bool} (hn:0<=n/\n<=1000000) :
 ∃v e n',Ev (λk=>DQ.f k m 0 [] [] met 0 n tie 0 op x.1.1 x.1.2.1 x.1.2.2 x.2.1 x.2.2 y.1.1 y.1.2.1 y.1.2.2 y.2.1 y.2.2) (wv v (BS m met n' tie e)) /\
  Ev (λk=>DT.f k m 0 n met tie op x.1.1 x.1.2.1 x.1.2.2 x.2.1 x.2.2 y.1.1 y.1.2.1 y.1.2.2 y.2.1 y.2.2) (wv v (RS m met n' tie e))/\Res m v e/\0<=n'/\n'<=n+1:=by
 by_cases hb:4<=op/\op<=7
 · obtain⟨v,e,n',E1,E2,r⟩:=ACs (y:=y) (y':=y) (two:=true) (met:=met) (tie:=tie) mz hm h0 h1 hx (λh=>⟨rfl,hy h⟩) (λ_=>⟨hU,hU⟩) hn
   refine⟨v,e,n', ?_,E2,r⟩;rcases(show op=4\/op=5\/op=6\/op=7 by omega) with rfl | rfl | rfl | rfl
   · exact Ev.AM (by decide) (Ev.AK rfl (Ev.bind (Ev.bind E1 (Ev.same rfl)) (Ev.same rfl)))
   · exact Ev.AM (by decide) (Ev.AM (by decide) (Ev.AK rfl (Ev.bind (Ev.bind E1 (Ev.same rfl)) (Ev.same rfl))))
   · exact Ev.AM (by decide) (Ev.AM (by decide) (Ev.AM (by decide) (Ev.AK rfl (Ev.bind (Ev.bind E1 (Ev.same rfl)) (Ev.same rfl)))))
   · exact Ev.AM (by decide) (Ev.AM (by decide) (Ev.AM (by decide) (Ev.AM (by decide) (Ev.AK rfl (Ev.bind (Ev.bind E1 (Ev.same rfl)) (Ev.same rfl))))))
 · obtain⟨v,e,n',E1,E2,r⟩:=ACs (y:=zV) (y':=y) (two:=false) (met:=met) (tie:=tie) mz hm h0 h1 hx (λh=>absurd h hb) (λ_=>⟨U_0,hU⟩) hn
   refine⟨v,e,n', ?_,E2,r⟩;rcases(show op=3\/op=8\/op=9\/op=10 by omega) with rfl | rfl | rfl | rfl
   · exact Ev.AK rfl (Ev.bind (Ev.bind E1 (Ev.same rfl)) (Ev.same rfl))
   · exact Ev.AM (by decide) (Ev.AM (by decide) (Ev.AM (by decide) (Ev.AM (by decide) (Ev.AM (by decide) (Ev.AK rfl (Ev.bind (Ev.bind E1 (Ev.same rfl)) (Ev.same rfl)))))))
   · exact Ev.AM (by decide) (Ev.AM (by decide) (Ev.AM (by decide) (Ev.AM (by decide) (Ev.AM (by decide) (Ev.AM (by decide) (Ev.AK rfl (Ev.bind (Ev.bind E1 (Ev.same rfl)) (Ev.same rfl))))))))
   · exact Ev.AM (by decide) (Ev.AM (by decide) (Ev.AM (by decide) (Ev.AM (by decide) (Ev.AM (by decide) (Ev.AM (by decide) (Ev.AM (by decide) (Ev.bind (Ev.bind E1 (Ev.same rfl)) (Ev.same rfl))))))))
section
variable {m:Int} {met:List Bool} {n:Int} {tie:Bool} {e:Int}
theorem AIw (he:e≠0) {p q b:Int} :Ev (λk=>CR.f k m 0 [] [] met 0 n tie e p q b) (wv zV (BS m met n tie e))/\Ev (λk=>Iu.f k m e n met tie p q b) (wv zV (RS m met n tie e)) :=
 ⟨Ev.bind (GH _ _ _ _ _ _ _ _ _) (Ev.AK (by simpa using he) (Ev.same rfl)),Ev.AM he (Ev.same rfl)⟩
theorem AIx (he:e≠0) {p q:Int} :Ev (λk=>DW.f k m 0 [] [] met 0 n tie e p q) (wv zV (BS m met n tie e))/\Ev (λk=>Iv.f k m e n met tie p q) (wv zV (RS m met n tie e)) :=
 ⟨Ev.bind (GH _ _ _ _ _ _ _ _ _) (Ev.AK (by simpa using he) (Ev.same rfl)),Ev.AM he (Ev.same rfl)⟩
theorem UA (he:e≠0) (op:Int) (x y:V5) (two:Bool):Ev (λk=>AO.f k m 0 [] [] met 0 n tie e op x.1.1 x.1.2.1 x.1.2.2 x.2.1 x.2.2 y.1.1 y.1.2.1 y.1.2.2 y.2.1 y.2.2 two) (wv zV (BS m met n tie e)) :=
 Ev.bind (GH _ _ _ _ _ _ _ _ _) (Ev.AK (by simpa using he) (Ev.same rfl))
theorem ALZ (he:e≠0) (op:Int) (x y:V5):Ev (λk=>DT.f k m e n met tie op x.1.1 x.1.2.1 x.1.2.2 x.2.1 x.2.2 y.1.1 y.1.2.1 y.1.2.2 y.2.1 y.2.2) (wv zV (RS m met n tie e)):=Ev.AM he (Ev.same rfl)
theorem AG8 (he:e≠0) {op:Int} (h0:3<=op) (h1:op<=10) (x y:V5):Ev (λk=>DQ.f k m 0 [] [] met 0 n tie e op x.1.1 x.1.2.1 x.1.2.2 x.2.1 x.2.2 y.1.1 y.1.2.1 y.1.2.2 y.2.1 y.2.2) (wv zV (BS m met n tie e)):=by
 rcases(show op=3\/op=4\/op=5\/op=6\/op=7\/op=8\/op=9\/op=10 by omega) with rfl | rfl | rfl | rfl | rfl | rfl | rfl | rfl
 · exact Ev.AK rfl (Ev.bind (Ev.bind (UA he _ x zV _) (Ev.same rfl)) (Ev.same rfl))
 · exact Ev.AM (by decide) (Ev.AK rfl (Ev.bind (Ev.bind (UA he _ x y _) (Ev.same rfl)) (Ev.same rfl)))
 · exact Ev.AM (by decide) (Ev.AM (by decide) (Ev.AK rfl (Ev.bind (Ev.bind (UA he _ x y _) (Ev.same rfl)) (Ev.same rfl))))
 · exact Ev.AM (by decide) (Ev.AM (by decide) (Ev.AM (by decide) (Ev.AK rfl (Ev.bind (Ev.bind (UA he _ x y _) (Ev.same rfl)) (Ev.same rfl)))))
 · exact Ev.AM (by decide) (Ev.AM (by decide) (Ev.AM (by decide) (Ev.AM (by decide) (Ev.AK rfl (Ev.bind (Ev.bind (UA he _ x y _) (Ev.same rfl)) (Ev.same rfl))))))
 · exact Ev.AM (by decide) (Ev.AM (by decide) (Ev.AM (by decide) (Ev.AM (by decide) (Ev.AM (by decide) (Ev.AK rfl (Ev.bind (Ev.bind (UA he _ x zV _) (Ev.same rfl)) (Ev.same rfl)))))))
 · exact Ev.AM (by decide) (Ev.AM (by decide) (Ev.AM (by decide) (Ev.AM (by decide) (Ev.AM (by decide) (Ev.AM (by decide) (Ev.AK rfl (Ev.bind (Ev.bind (UA he _ x zV _) (Ev.same rfl)) (Ev.same rfl))))))))
 · exact Ev.AM (by decide) (Ev.AM (by decide) (Ev.AM (by decide) (Ev.AM (by decide) (Ev.AM (by decide) (Ev.AM (by decide) (Ev.AM (by decide) (Ev.bind (Ev.bind (UA he _ x zV _) (Ev.same rfl)) (Ev.same rfl))))))))
theorem AG9 (he:e≠0) (x y:V5):Ev (λk=>Am.f k m 0 [] [] met 0 n tie e x.1.1 x.1.2.1 x.1.2.2 x.2.1 x.2.2 y.1.1 y.1.2.1 y.1.2.2 y.2.1 y.2.2) (false,BS m met n tie e)/\Ev (λk=>BZ.f k m e n met tie x.1.1 x.1.2.1 x.1.2.2 x.2.1 x.2.2 y.1.1 y.1.2.1 y.1.2.2 y.2.1 y.2.2) (false,RS m met n tie e) :=
 ⟨Ev.bind (GH _ _ _ _ _ _ _ _ _) (Ev.AK (by simpa using he) (Ev.same rfl)),Ev.AM he (Ev.same rfl)⟩
end
def ZC (l:List V5) (a:Int):V5:=if a<1 then zV else if a>(l.length:Int) then zV else l.getD ((l.length:Int)-a).toNat zV
theorem sr {l:List V5} {t:List Bool} {a:Int} (hl:l.length<=1000000):Ev (λk=>AU.f k l t a) (wv (ZC l a) (l,t)):=by
 unfold ZC;by_cases h1:a<1
 · rw[if_pos h1]
   exact Ev.AK h1 (Ev.step (λk=>AU.j2.eq_2 ..) (Ev.same rfl))
 rw[if_neg h1];refine Ev.AM h1 ?_;by_cases h2:a>(l.length:Int)
 · rw[if_pos h2]
   exact Ev.AK h2 (Ev.step (λk=>AU.j2.eq_2 ..) (Ev.same rfl))
 rw[if_neg h2];have ew:wrap64 ((l.length:Int)-a)=(l.length:Int)-a:=by rw[AG (by omega) (by omega)]
 refine Ev.AM h2 (Ev.AK (by rw[ew];omega) (Ev.AK (by rw[ew];omega) (Ev.same ?_)));rw[ew];rfl
end
section
def oB (m:Int) (met:List Bool) (n:Int) (tie:Bool) (e:Int) (l:List V5) (t:List Bool):Int × Int × List I6 × List Bool × List Bool × Int × Int × Bool × Int × List V5 × List Bool:=(m,0,[],[],met,0,n,tie,e,l,t)
def oR (m:Int) (met:List Bool) (n:Int) (tie:Bool) (e:Int) (l:List V5) (t:List Bool):Int × Int × Int × List Bool × Bool × List V5 × List Bool:=(m,e,n,met,tie,l,t)
section
variable {m K A B P Q W n e:Int} {met t:List Bool} {tie:Bool} {l:List V5}
theorem s9 (h:K≠11):Ev (λk=>AA.j9 k K A B P Q W m 0 [] [] met 0 n tie e l t) (oB m met n tie e l t):=Ev.step (λk=>AA.j9.eq_2 ..) (Ev.AM h (Ev.same rfl))
theorem r9 (h:K≠11):Ev (λk=>AD.j9 k K A B P Q W m e n met tie l t) (oR m met n tie e l t):=Ev.step (λk=>AD.j9.eq_2 ..) (Ev.AM h (Ev.same rfl))
theorem s7 (h:K≠11) (h2 : ¬(3<=K/\K<=10)):Ev (λk=>AA.j7 k K A B P Q W m 0 [] [] met 0 n tie e l t) (oB m met n tie e l t):=by
 refine Ev.step (λk=>AA.j7.eq_2 ..) ?_;by_cases h3:K>=3
 · exact Ev.AK h3 (Ev.AM (by omega) (s9 h))
 · exact Ev.AM h3 (s9 h)
theorem r7 (h:K≠11) (h2 : ¬(3<=K/\K<=10)):Ev (λk=>AD.j7 k K A B P Q W m e n met tie l t) (oR m met n tie e l t):=by
 refine Ev.step (λk=>AD.j7.eq_2 ..) ?_;by_cases h3:K>=3
 · exact Ev.AK h3 (Ev.AM (by omega) (r9 h))
 · exact Ev.AM h3 (r9 h)
theorem s5 (h:K=0):Ev (λk=>AA.j5 k K A B P Q W m 0 [] [] met 0 n tie e l t) (oB m met n tie e l t):=Ev.step (λk=>AA.j5.eq_2 ..) (Ev.AM (by omega) (s7 (by omega) (by omega)))
theorem r5 (h:K=0):Ev (λk=>AD.j5 k K A B P Q W m e n met tie l t) (oR m met n tie e l t):=Ev.step (λk=>AD.j5.eq_2 ..) (Ev.AM (by omega) (r7 (by omega) (by omega)))
def AAs (m n e:Int) (met t:List Bool) (l:List V5) (met':List Bool) (n' e':Int) (l':List V5) (t':List Bool):Prop :=
 met'.length<=met.length+1/\0<=n'/\n'<=n+1/\t'.length<=t.length+1/\(l'=l\/ ∃v,l'=l++ [v]/\Res m v e')/\(e'=0->e=0)
theorem YB.mono {c d m:Int} {v:V5} (h:YB c m v) (hc:c<=d):YB d m v:=by
 rcases h with⟨h,q,hq,r⟩ | h
 · exact .inl ⟨h,q,hq.mono hc,r⟩
 · exact .inr h
theorem APt (hm:m=0\/m=1) (hl:l.length<=1000) (ht:t.length<=1000) (bQ:met.length<=1000) (hv:K=11->e=0->YB 2560 m (ZC l A)/\YB 2560 m (ZC l B)) :
 ∃met' Fy t',Ev (λk=>AA.j9 k K A B P Q W m 0 [] [] met 0 n tie e l t) (oB m met' n Fy e l t')/\Ev (λk=>AD.j9 k K A B P Q W m e n met tie l t) (oR m met' n Fy e l t')/\met'.length<=met.length+1/\t'.length<=t.length+1:=by
 by_cases hK:K=11
 · have b1:=sr (l:=l) (t:=t) (a:=A) (by omega)
   have b2:=sr (l:=l) (t:=t) (a:=B) (by omega);by_cases he:e=0
   · subst he
     obtain⟨h1,h2⟩:=hv hK rfl;obtain⟨b,t',E1,E2⟩:=ADo (met:=met) (n:=n) (tie:=tie) hm h1 h2 bQ;exact⟨met++ [b],t',t++ [b],Ev.step (λk=>AA.j9.eq_2 ..) (Ev.AK hK (Ev.bind b1 (Ev.bind b2 (Ev.bind E1 (Ev.AK (by dsimp only[wv];omega) (Ev.same rfl)))))),Ev.step (λk=>AD.j9.eq_2 ..) (Ev.AK hK (Ev.bind b1 (Ev.bind b2 (Ev.bind E2 (Ev.AK (by dsimp only[wv];omega) (Ev.same rfl)))))),by simp,by simp⟩
   · obtain⟨E1,E2⟩:=AG9 (m:=m) (met:=met) (n:=n) (tie:=tie) he (ZC l A) (ZC l B)
     exact⟨met,tie,t++ [false],Ev.step (λk=>AA.j9.eq_2 ..) (Ev.AK hK (Ev.bind b1 (Ev.bind b2 (Ev.bind E1 (Ev.AK (by dsimp only[wv];omega) (Ev.same rfl)))))),Ev.step (λk=>AD.j9.eq_2 ..) (Ev.AK hK (Ev.bind b1 (Ev.bind b2 (Ev.bind E2 (Ev.AK (by dsimp only[wv];omega) (Ev.same rfl)))))),by omega,by simp⟩
 · exact⟨met,tie,t,s9 hK,r9 hK,by omega,by omega⟩
theorem APu (hm:m=0\/m=1) (hl:l.length<=1000) (ht:t.length<=1000) (bQ:met.length<=1000) (hn:0<=n/\n<=1000) {sq:Int->Int} (mz:fz sq) (hv:K=11->e=0->YB 2560 m (ZC l A)/\YB 2560 m (ZC l B)) (hw:3<=K/\K<=10->e=0->YB 2560 m (ZC l A)/\(4<=K/\K<=7->YB 2560 m (ZC l B))/\U (ZC l B).2.1) :
 ∃met' n' Fy e' l' t',Ev (λk=>AA.j7 k K A B P Q W m 0 [] [] met 0 n tie e l t) (oB m met' n' Fy e' l' t')/\Ev (λk=>AD.j7 k K A B P Q W m e n met tie l t) (oR m met' n' Fy e' l' t')/\AAs m n e met t l met' n' e' l' t':=by
 by_cases hK:3<=K/\K<=10
 · have b1:=sr (l:=l) (t:=t) (a:=A) (by omega)
   have b2:=sr (l:=l) (t:=t) (a:=B) (by omega);by_cases he:e=0
   · subst he
     obtain⟨h1,h2,h3⟩:=hw hK rfl;obtain⟨v,e',n',E1,E2,hr,hn1,hn2⟩:=ADp (met:=met) (n:=n) (tie:=tie) mz hm hK.1 hK.2 h1 h2 h3 (by omega);exact⟨met,n',tie,e',l++ [v],t,Ev.step (λk=>AA.j7.eq_2 ..) (Ev.AK hK.1 (Ev.AK hK.2 (Ev.bind b1 (Ev.bind b2 (Ev.bind E1 (Ev.AK (by dsimp only[wv];omega) (s9 (by omega)))))))),Ev.step (λk=>AD.j7.eq_2 ..) (Ev.AK hK.1 (Ev.AK hK.2 (Ev.bind b1 (Ev.bind b2 (Ev.bind E2 (Ev.AK (by dsimp only[wv];omega) (r9 (by omega)))))))),by omega,hn1,hn2,by omega, .inr ⟨v,rfl,hr⟩,λ_=>rfl⟩
   · have E1:=AG8 (m:=m) (met:=met) (n:=n) (tie:=tie) he hK.1 hK.2 (ZC l A) (ZC l B)
     have E2:=ALZ (m:=m) (met:=met) (n:=n) (tie:=tie) he K (ZC l A) (ZC l B);exact⟨met,n,tie,e,l++ [zV],t,Ev.step (λk=>AA.j7.eq_2 ..) (Ev.AK hK.1 (Ev.AK hK.2 (Ev.bind b1 (Ev.bind b2 (Ev.bind E1 (Ev.AK (by dsimp only[wv];omega) (s9 (by omega)))))))),Ev.step (λk=>AD.j7.eq_2 ..) (Ev.AK hK.1 (Ev.AK hK.2 (Ev.bind b1 (Ev.bind b2 (Ev.bind E2 (Ev.AK (by dsimp only[wv];omega) (r9 (by omega)))))))),by omega,hn.1,by omega,by omega, .inr ⟨zV,rfl, .inr ⟨he,rfl⟩⟩,id⟩
 · obtain⟨met',Fy,t',E1,E2,q1,q2⟩:=APt (A:=A) (B:=B) (P:=P) (Q:=Q) (W:=W) (tie:=tie) hm hl ht bQ hv
   refine⟨met',n,Fy,e,l,t',Ev.step (λk=>AA.j7.eq_2 ..) ?_,Ev.step (λk=>AD.j7.eq_2 ..) ?_,q1,hn.1,by omega,q2, .inl rfl,id⟩
   · by_cases h3:K>=3
     · exact Ev.AK h3 (Ev.AM (by omega) E1)
     · exact Ev.AM h3 E1
   · by_cases h3:K>=3
     · exact Ev.AK h3 (Ev.AM (by omega) E2)
     · exact Ev.AM h3 E2
theorem APv (hm:m=0\/m=1) (hl:l.length<=1000) (ht:t.length<=1000) (bQ:met.length<=1000) (hn:0<=n/\n<=1000) (hP:g7 P) (hQ:g7 Q) {sq:Int->Int} (mz:fz sq) (hv:K=11->e=0->YB 2560 m (ZC l A)/\YB 2560 m (ZC l B)) (hw:3<=K/\K<=10->e=0->YB 2560 m (ZC l A)/\(4<=K/\K<=7->YB 2560 m (ZC l B))/\U (ZC l B).2.1) :
 ∃met' n' Fy e' l' t',Ev (λk=>AA.j5 k K A B P Q W m 0 [] [] met 0 n tie e l t) (oB m met' n' Fy e' l' t')/\Ev (λk=>AD.j5 k K A B P Q W m e n met tie l t) (oR m met' n' Fy e' l' t')/\AAs m n e met t l met' n' e' l' t':=by
 by_cases hK:K=1
 · by_cases he:e=0
   · subst he
     obtain⟨v,e',E1,E2,hr⟩:=AG7 (met:=met) (n:=n) (tie:=tie) hm hP hQ;exact⟨met,n,tie,e',l++ [v],t,Ev.step (λk=>AA.j5.eq_2 ..) (Ev.AK hK (Ev.bind E1 (Ev.AK (by omega) (s7 (by omega) (by omega))))),Ev.step (λk=>AD.j5.eq_2 ..) (Ev.AK hK (Ev.bind E2 (Ev.AK (by omega) (r7 (by omega) (by omega))))),by omega,hn.1,by omega,by omega, .inr ⟨v,rfl,hr⟩,λ_=>rfl⟩
   · obtain⟨E1,E2⟩:=AIx (m:=m) (met:=met) (n:=n) (tie:=tie) he (p:=P) (q:=Q)
     exact⟨met,n,tie,e,l++ [zV],t,Ev.step (λk=>AA.j5.eq_2 ..) (Ev.AK hK (Ev.bind E1 (Ev.AK (by omega) (s7 (by omega) (by omega))))),Ev.step (λk=>AD.j5.eq_2 ..) (Ev.AK hK (Ev.bind E2 (Ev.AK (by omega) (r7 (by omega) (by omega))))),by omega,hn.1,by omega,by omega, .inr ⟨zV,rfl, .inr ⟨he,rfl⟩⟩,id⟩
 · obtain⟨met',n',Fy,e',l',t',E1,E2,r⟩:=APu (P:=P) (Q:=Q) (W:=W) (tie:=tie) hm hl ht bQ hn mz hv hw
   exact⟨met',n',Fy,e',l',t',Ev.step (λk=>AA.j5.eq_2 ..) (Ev.AM hK E1),Ev.step (λk=>AD.j5.eq_2 ..) (Ev.AM hK E2),r⟩
theorem APw (hm:m=0\/m=1) (hl:l.length<=1000) (ht:t.length<=1000) (bQ:met.length<=1000) (hn:0<=n/\n<=1000) (hP:g7 P) (hQ:g7 Q) (hW:U W) {sq:Int->Int} (mz:fz sq) (hv:K=11->e=0->YB 2560 m (ZC l A)/\YB 2560 m (ZC l B)) (hw:3<=K/\K<=10->e=0->YB 2560 m (ZC l A)/\(4<=K/\K<=7->YB 2560 m (ZC l B))/\U (ZC l B).2.1) :
 ∃met' n' Fy e' l' t',Ev (λk=>AA.j3 k K A B P Q W m 0 [] [] met 0 n tie e l t) (oB m met' n' Fy e' l' t')/\Ev (λk=>AD.j3 k K A B P Q W m e n met tie l t) (oR m met' n' Fy e' l' t')/\AAs m n e met t l met' n' e' l' t':=by
 by_cases hK:K=0
 · by_cases he:e=0
   · subst he
     obtain⟨v,e',E1,E2,hr⟩:=AG6 (met:=met) (n:=n) (tie:=tie) hm hP hQ hW;exact⟨met,n,tie,e',l++ [v],t,Ev.step (λk=>AA.j3.eq_2 ..) (Ev.AK hK (Ev.bind E1 (Ev.AK (by omega) (s5 hK)))),Ev.step (λk=>AD.j3.eq_2 ..) (Ev.AK hK (Ev.bind E2 (Ev.AK (by omega) (r5 hK)))),by omega,hn.1,by omega,by omega, .inr ⟨v,rfl,hr⟩,λ_=>rfl⟩
   · obtain⟨E1,E2⟩:=AIw (m:=m) (met:=met) (n:=n) (tie:=tie) he (p:=P) (q:=Q) (b:=W)
     exact⟨met,n,tie,e,l++ [zV],t,Ev.step (λk=>AA.j3.eq_2 ..) (Ev.AK hK (Ev.bind E1 (Ev.AK (by omega) (s5 hK)))),Ev.step (λk=>AD.j3.eq_2 ..) (Ev.AK hK (Ev.bind E2 (Ev.AK (by omega) (r5 hK)))),by omega,hn.1,by omega,by omega, .inr ⟨zV,rfl, .inr ⟨he,rfl⟩⟩,id⟩
 · obtain⟨met',n',Fy,e',l',t',E1,E2,r⟩:=APv (W:=W) (tie:=tie) hm hl ht bQ hn hP hQ mz hv hw
   exact⟨met',n',Fy,e',l',t',Ev.step (λk=>AA.j3.eq_2 ..) (Ev.AM hK E1),Ev.step (λk=>AD.j3.eq_2 ..) (Ev.AM hK E2),r⟩
end
end
theorem ZD {l:List V5} {a:Int} (h1:1<=a) (h2:a<=l.length):ZC l a∈l:=by
 unfold ZC;rw[if_neg (by omega),if_neg (by omega),g6 (by omega)];exact AWS _
theorem APx {l:List V5} (h : ∀v∈l,U v.2.1) (a:Int):U (ZC l a).2.1:=by
 by_cases h1:1<=a/\a<=l.length
 · exact h _ (ZD h1.1 h1.2)
 · unfold ZC
   by_cases h2:a<1
   · rw[if_pos h2];exact U_0
   · rw[if_neg h2,if_pos (by omega)];exact U_0
theorem AHA {m K A B P Q W n e:Int} {met t:List Bool} {tie two:Bool} {l:List V5} (ALa:two=true↔(4<=K/\K<=7)\/K=11) (hm:m=0\/m=1) (hl:l.length<=1000) (ht:t.length<=1000) (bQ:met.length<=1000) (hn:0<=n/\n<=1000) (hP:g7 P) (hQ:g7 Q) (hW:U W) {sq:Int->Int} (mz:fz sq) (hval:e=0-> ∀v∈l,YB 2560 m v) :
 ∃met' n' Fy e' l' t',Ev (λk=>AA.j2 k two K A B P Q W m 0 [] [] met 0 n tie e l t) (oB m met' n' Fy e' l' t')/\Ev (λk=>AD.j2 k two K A B P Q W m e n met tie l t) (oR m met' n' Fy e' l' t')/\AAs m n e met t l met' n' e' l' t':=by
 have same:AAs m n e met t l met n e l t:=⟨by omega,hn.1,by omega,by omega, .inl rfl,id⟩;have go:(K>1->1<=A/\A<=l.length)->((4<=K/\K<=7)\/K=11->1<=B/\B<=l.length)-> ∃met' n' Fy e' l' t',Ev (λk=>AA.j3 k K A B P Q W m 0 [] [] met 0 n tie e l t) (oB m met' n' Fy e' l' t')/\Ev (λk=>AD.j3 k K A B P Q W m e n met tie l t) (oR m met' n' Fy e' l' t')/\AAs m n e met t l met' n' e' l' t':=λhA hB =>
  APw (tie:=tie) hm hl ht bQ hn hP hQ hW mz (λhK he=>⟨hval he _ (ZD (hA (by omega)).1 (hA (by omega)).2),hval he _ (ZD (hB (.inr hK)).1 (hB (.inr hK)).2)⟩)
   (λhK he=>⟨hval he _ (ZD (hA (by omega)).1 (hA (by omega)).2),λh4=>hval he _ (ZD (hB (.inl h4)).1 (hB (.inl h4)).2),APx (λv hv=>APs (hval he v hv)) B⟩)
 by_cases hK:K>1
 · by_cases hA1:A<1
   · exact⟨met,n,tie,e,l,t,Ev.step (λk=>AA.j2.eq_2 ..) (Ev.AK hK (Ev.AK hA1 (Ev.same rfl))),Ev.step (λk=>AD.j2.eq_2 ..) (Ev.AK hK (Ev.AK hA1 (Ev.same rfl))),same⟩
   by_cases hA2:A>(l.length:Int)
   · exact⟨met,n,tie,e,l,t,Ev.step (λk=>AA.j2.eq_2 ..) (Ev.AK hK (Ev.AM hA1 (Ev.AK hA2 (Ev.same rfl)))),Ev.step (λk=>AD.j2.eq_2 ..) (Ev.AK hK (Ev.AM hA1 (Ev.AK hA2 (Ev.same rfl)))),same⟩
   by_cases h2:two=true
   · by_cases hB1:B<1
     · exact⟨met,n,tie,e,l,t,Ev.step (λk=>AA.j2.eq_2 ..) (Ev.AK hK (Ev.AM hA1 (Ev.AM hA2 (Ev.AK h2 (Ev.AK hB1 (Ev.same rfl)))))),Ev.step (λk=>AD.j2.eq_2 ..) (Ev.AK hK (Ev.AM hA1 (Ev.AM hA2 (Ev.AK h2 (Ev.AK hB1 (Ev.same rfl)))))),same⟩
     by_cases hB2:B>(l.length:Int)
     · exact⟨met,n,tie,e,l,t,Ev.step (λk=>AA.j2.eq_2 ..) (Ev.AK hK (Ev.AM hA1 (Ev.AM hA2 (Ev.AK h2 (Ev.AM hB1 (Ev.AK hB2 (Ev.same rfl))))))),Ev.step (λk=>AD.j2.eq_2 ..) (Ev.AK hK (Ev.AM hA1 (Ev.AM hA2 (Ev.AK h2 (Ev.AM hB1 (Ev.AK hB2 (Ev.same rfl))))))),same⟩
     obtain⟨met',n',Fy,e',l',t',E1,E2,r⟩:=go (λ_=>by omega) (λ_=>by omega);exact⟨met',n',Fy,e',l',t',Ev.step (λk=>AA.j2.eq_2 ..) (Ev.AK hK (Ev.AM hA1 (Ev.AM hA2 (Ev.AK h2 (Ev.AM hB1 (Ev.AM hB2 E1)))))),Ev.step (λk=>AD.j2.eq_2 ..) (Ev.AK hK (Ev.AM hA1 (Ev.AM hA2 (Ev.AK h2 (Ev.AM hB1 (Ev.AM hB2 E2)))))),r⟩
   · obtain⟨met',n',Fy,e',l',t',E1,E2,r⟩:=go (λ_=>by omega) (λh=>absurd (ALa.2 h) h2)
     exact⟨met',n',Fy,e',l',t',Ev.step (λk=>AA.j2.eq_2 ..) (Ev.AK hK (Ev.AM hA1 (Ev.AM hA2 (Ev.AM h2 E1)))),Ev.step (λk=>AD.j2.eq_2 ..) (Ev.AK hK (Ev.AM hA1 (Ev.AM hA2 (Ev.AM h2 E2)))),r⟩
 · have h2 : ¬two=true:=λh=>by
    rcases ALa.1 h with h | h<;>omega
   obtain⟨met',n',Fy,e',l',t',E1,E2,r⟩:=go (λh=>absurd h hK) (λh=>absurd (ALa.2 h) h2);exact⟨met',n',Fy,e',l',t',Ev.step (λk=>AA.j2.eq_2 ..) (Ev.AM hK (Ev.AM h2 E1)),Ev.step (λk=>AD.j2.eq_2 ..) (Ev.AM hK (Ev.AM h2 E2)),r⟩
theorem ADQ {m K A B P Q W n e:Int} {met t:List Bool} {tie:Bool} {l:List V5} (hm:m=0\/m=1) (hl:l.length<=1000) (ht:t.length<=1000) (bQ:met.length<=1000) (hn:0<=n/\n<=1000) (hP:g7 P) (hQ:g7 Q) (hW:U W) {sq:Int->Int} (mz:fz sq) (hval:e=0-> ∀v∈l,YB 2560 m v) :
 ∃met' n' Fy e' l' t',Ev (λk=>AA.f k m 0 [] [] met 0 n tie e l t K A B P Q W) (oB m met' n' Fy e' l' t')/\Ev (λk=>AD.f k m e n met tie l t K A B P Q W) (oR m met' n' Fy e' l' t')/\AAs m n e met t l met' n' e' l' t':=by
 by_cases h1:K>=4
 · by_cases h2:K<=7
   · obtain⟨met',n',Fy,e',l',t',E1,E2,r⟩:=AHA (two:=true) (tie:=tie) ⟨λ_=> .inl ⟨h1,h2⟩,λ_=>rfl⟩ hm hl ht bQ hn hP hQ hW mz hval
     exact⟨met',n',Fy,e',l',t',Ev.AK h1 (Ev.AK h2 E1),Ev.AK h1 (Ev.AK h2 E2),r⟩
   · obtain⟨met',n',Fy,e',l',t',E1,E2,r⟩:=AHA (two:=K==11) (tie:=tie) ⟨λh=> .inr (beq_iff_eq.1 h),λh=>beq_iff_eq.2 (by omega)⟩ hm hl ht bQ hn hP hQ hW mz hval
     exact⟨met',n',Fy,e',l',t',Ev.AK h1 (Ev.AM h2 E1),Ev.AK h1 (Ev.AM h2 E2),r⟩
 · obtain⟨met',n',Fy,e',l',t',E1,E2,r⟩:=AHA (two:=K==11) (tie:=tie) ⟨λh=> .inr (beq_iff_eq.1 h),λh=>beq_iff_eq.2 (by omega)⟩ hm hl ht bQ hn hP hQ hW mz hval
   exact⟨met',n',Fy,e',l',t',Ev.AM h1 E1,Ev.AM h1 E2,r⟩
theorem rM (s:Bool) (a b:List Int) (m:Int) : ∃r,DP.f s a b m=some r/\(r=false↔(a.length:Int)<=m/\(b.length:Int)<=m):=by
 unfold DP.f;by_cases h:(a.length:Int)>m
 · rw[if_pos h];exact⟨true,rfl,by simp;omega⟩
 · rw[if_neg h]
   refine⟨_,rfl, ?_⟩;rw[decide_eq_false_iff_not];omega
end Go.Proofs.YtjocbnjpjihpnaaGreat.M
