/- What the functions answer, over plain numbers. -/
import Derived.Test.YtjocbnjpjihpnaaGreatBB
import Derived.Test.YtjocbnjpjihpnaaGreatCCa
import Derived.Test.YtjocbnjpjihpnaaGreatFgradinelaw18Step
import Derived.Test.YtjocbnjpjihpnaaGreatFgradinelaw18long
import Derived.Test.YtjocbnjpjihpnaaGreatFgradinelaw18same
import Derived.Test.YtjocbnjpjihpnaaGreatFgradinelaw18does
import Derived.Test.YtjocbnjpjihpnaaGreatFgradinelaw18comes
import Derived.Test.YtjocbnjpjihpnaaGreatFgradinelaw18BankLines
namespace Go.Proofs.YtjocbnjpjihpnaaGreat.M
open Go.RowKit Go.Proofs.YtjocbnjpjihpnaaGreat.P Go.Proofs.YtjocbnjpjihpnaaGreatW.AD Go.Proofs.YtjocbnjpjihpnaaGreatW.AU Go.Proofs.YtjocbnjpjihpnaaGreatW.Ac
set_option linter.unusedVariables false
theorem bN {x:Int} (hx:0<=x) (bx:bl x<=60000):Ev (λk=>Ap.f k (dg x)) (dg x):=by
 have T:=Cz (l:=dg x) (BO (by omega));rw[AY hx] at T;exact T
theorem AHk (S:Int) {D:Int} (hD:0<D):Rq (-S) D=(decide (0<S),(Rq S D).2.1,(Rq S D).2.2):=by
 have e:ab (-S)=ab S:=by unfold ab;split<;>split<;>omega
 unfold Rq;rw[e];by_cases h:S=0
 · rw[if_pos h,if_pos (by omega),decide_eq_false (by omega)]
 · rw[if_neg h,if_neg (by omega)]
   congr 1
   exact decide_eq_decide.2 (by omega)
theorem jw {S D:Int} (h:Fit S D):Ev (λk=>Iz.f k (Rq S D).1 (Rq S D).2.1 (Rq S D).2.2) (Rq (-S) D):=by
 rw[AHk S h.1];obtain⟨N,E,h1,h2,h3,h4,h5,h6,h7⟩:=dZ h;rw[h1];dsimp only;have T1:=bN h2 (by omega);have T2:=bN (APs h3) (by omega);have lN:=AQ N;have B:=E8 (l:=dg N) (BO (by omega));rw[AY h2] at B;by_cases hs:S<0
 · rw[decide_eq_true hs,decide_eq_false (show¬0<S by omega)]
   exact Ev.AI rfl (Ev.bind T1 (Ev.bind T2 (Ev.same rfl)))
 · rw[decide_eq_false hs]
   refine Ev.AO (by decide) (Ev.bind B (Ev.bind T1 (Ev.bind T2 (Ev.same ?_))))
   congr 2
   refine decide_eq_decide.2 ?_;rcases(show N=0\/0<N by omega) with k | k
   · rw[k,Lo];have:=h7.1 k;omega
   · have:=Ds k;have:S≠0:=λq=>by have:=h7.2 q;omega
     omega
theorem jx {S D S' D':Int} (h:Fit S D) (h':Fit S' D'):Ev (λk=>I0.f k (Rq S D).1 (Rq S D).2.1 (Rq S D).2.2 (Rq S' D').1 (Rq S' D').2.1 (Rq S' D').2.2) (Rq (S*D'-S'*D) (D*D')):=by
 refine Ev.bind (jw h') (Ev.bind (jy h (AFA h')) (Ev.same ?_));rw[ARS];rfl
theorem AAh {S D:Int} (h:Fit S D):Ev (λk=>HZ.f k (Rq S D).1 (Rq S D).2.1 (Rq S D).2.2) (AFB S):=by
 obtain⟨N,E,h1,h2,h3,h4,h5,h6,h7⟩:=dZ h;rw[h1];have G:=VF (a:=dg N) (b:=dg E) (decide (S<0)) (BO (by omega));refine Ev.dc G ?_;rw[AY h2];unfold AFB;by_cases hz:S=0
 · rw[if_pos (h7.2 hz),if_pos hz]
 · rw[if_neg (λk=>hz (h7.1 k)),if_neg hz]
   by_cases hs:S<0
   · rw[if_pos hs,if_pos (decide_eq_true hs)]
   · rw[if_neg hs,if_neg (by rw[decide_eq_false hs];decide)]
def Fb (n S D:Int):Prop:=0<D/\bl (ab S)<=n/\bl D<=n
theorem ACf {n S D:Int} (h:Fb n S D) (hn:n<=14000):Fit S D:=⟨h.1,by have:=h.2.1;omega,by have:=h.2.2;omega⟩
theorem AFC (x y:Int):ab (x*y)=ab x*ab y:=by
 rcases AQf y 0 with h | h
 · have e:x*y=(-x)*(-y):=by rw[Int.neg_mul_neg]
   have a1:ab (-x)=ab x:=(by unfold ab;split<;>split<;>omega);have a2:ab y= -y:=(by unfold ab;rw[if_pos h]);rw[e,YF _ (show 0 < -y by omega),a1,a2]
 · rcases(show y=0\/0<y by omega) with k | k
   · rw[k,AQ1,show ab 0=0 from rfl,AQ1]
   · rw[YF _ k]
     have:ab y=y:=(by unfold ab;rw[if_neg (by omega)]);rw[this]
theorem AHl (x y:Int):ab (x+y)<=ab x+ab y:=by unfold ab;split<;>split<;>split<;>omega
theorem ACg {n S D:Int} (h:Fb n S D):Fb n (-S) D:=by
 have:ab (-S)=ab S:=by unfold ab;split<;>split<;>omega
 unfold Fb;rw[this];exact h
theorem ACh {n m S D S' D':Int} (h:Fb n S D) (h':Fb m S' D'):Fb (n+m+1) (S*D'+S'*D) (D*D'):=by
 have e1:ab (S*D')=ab S*D':=YF S h'.1;have e2:ab (S'*D)=ab S'*D:=YF S' h.1;have b1:=Fo (DG S) (APs h'.1);have b2:=Fo (DG S') (APs h.1);have b3:=Fo (APs h.1) (APs h'.1);have hh:=h.2;have hh':=h'.2;have n1:0<=ab S*D':=AP7 (DG S) (APs h'.1);have n2:0<=ab S'*D:=AP7 (DG S') (APs h.1);have b4:=YG n1 n2 (m:=n+m) (by omega) (by omega);have a:=AHl (S*D') (S'*D);rw[e1,e2] at a;have:=B9 a;exact⟨AQ0 h.1 h'.1,by omega,by omega⟩
theorem ACi {n m S D S' D':Int} (h:Fb n S D) (h':Fb m S' D'):Fb (n+m) (S*S') (D*D'):=by
 have b1:=Fo (DG S) (DG S');have b3:=Fo (APs h.1) (APs h'.1);have hh:=h.2;have hh':=h'.2;refine⟨AQ0 h.1 h'.1, ?_,by omega⟩;rw[AFC];omega
theorem m9 (s s':Bool) (x y:Int):GQ s x*GQ s' y=GQ (s !=s') (x*y):=by
 unfold GQ;cases s<;>cases s'<;>simp[ARS,Int.mul_neg]
theorem AAi {S D S' D':Int} (h:AAj S D) (h':AAj S' D'):Ev (λk=>IE.f k (Rq S D).1 (Rq S D).2.1 (Rq S D).2.2 (Rq S' D').1 (Rq S' D').2.1 (Rq S' D').2.2) (Rq (S*S') (D*D')):=by
 obtain⟨N,E,h1,h2,h3,h4,h5,h6,h7⟩:=bO h;obtain⟨N',E',k1,k2,k3,k4,k5,k6,k7⟩:=bO h';rw[h1,k1];dsimp only;have lN:=AQ N;have lE:=AQ E;have lN':=AQ N';have lE':=AQ E';have R1:=PV (a:=dg N) (b:=dg E') (BO (by omega)) (BO (by omega)) (by omega) (by omega);have R2:=PV (a:=dg N') (b:=dg E) (BO (by omega)) (BO (by omega)) (by omega) (by omega);rw[AY h2,AY (APs k3)] at R1;rw[AY k2,AY (APs h3)] at R2;have g1:=y9 h2 k3;have g2:=y9 k2 h3;have s1:=He h2 (APs k3);have s2:=He k2 (APs h3);have p1:=PW (a:=N) (b:=E') (.inr k3);have p2:=PW (a:=N') (b:=E) (.inr h3);have dd:0<D*D':=AQ0 h.1 h'.1;generalize N/gc N E'=n1 at *;generalize E'/gc N E'=e1 at *;generalize N'/gc N' E=n2 at *;generalize E/gc N' E=e2 at *;have m1:=B9 g1.1;have m2:=B9 g1.2.1;have m3:=B9 g2.1;have m4:=B9 g2.2.1;have M1:=Y1 (x:=n1) (y:=n2) g1.2.2.2 g2.2.2.2 (by omega) (by omega);have M2:=Y1 (x:=e2) (y:=e1) (APs g2.2.2.1) (APs g1.2.2.1) (by omega) (by omega);have b1:=Fo g1.2.2.2 g2.2.2.2;have b2:=Fo (APs g2.2.2.1) (APs g1.2.2.1);have d0:0<e2*e1:=AQ0 g2.2.2.1 g1.2.2.1;have n0:0<=n1*n2:=AP7 g1.2.2.2 g2.2.2.2;refine Ev.bind (PX k3 (by omega)) (Ev.bind R1 (Ev.bind (PX h3 (by omega)) (Ev.bind R2 (Ev.bind M1 (Ev.bind M2 (Ev.bind (YH _ n0 d0 (by omega) (by omega)) (Ev.same ?_)))))));have e:Rq (GQ (decide (S<0) !=decide (S'<0)) (n1*n2)) (e2*e1)=Rq (S*S') (D*D'):=by
  refine dh d0 dd ?_;generalize gc N E'=g at *;generalize gc N' E=g' at *;have q:0<g*g':=AQ0 p1 p2;refine ARe (show g*g'≠0 by omega) ?_;rw[<-m9];have t1:GQ (decide (S<0)) N=GQ (decide (S<0)) n1*g:=by rw[<-s1.1];unfold GQ;cases decide (S<0)<;>simp[ARS]
  have t2:GQ (decide (S'<0)) N'=GQ (decide (S'<0)) n2*g':=by rw[<-s2.1];unfold GQ;cases decide (S'<0)<;>simp[ARS]
  rw[t1,<-s2.2] at h6;rw[t2,<-s1.2] at k6;generalize GQ (decide (S<0)) n1=σ at *;generalize GQ (decide (S'<0)) n2=σ' at *;have a1:σ*σ'*(D*D')*(g*g')=(σ*g*D)*(σ'*g'*D'):=by grind
  have a2:S*S'*(e2*e1)*(g*g')=(S*(e2*g'))*(S'*(e1*g)):=by grind
  rw[a1,a2,h6,k6]
 rw[<-e]
theorem jz {S D S' D':Int} (h:Fit S D) (h':Fit S' D'):Ev (λk=>IE.f k (Rq S D).1 (Rq S D).2.1 (Rq S D).2.2 (Rq S' D').1 (Rq S' D').2.1 (Rq S' D').2.2) (Rq (S*S') (D*D')):=AAi h.big h'.big
def IS (S D:Int):Int:=GQ (decide (S<0)) D
theorem ACj {n S D:Int} (h:Fb n S D) (hS:S≠0):Fb n (IS S D) (ab S):=by
 have:=DG S;have h1:ab S≠0:=λk=>hS (PY.1 k)
 have:ab (IS S D)=D:=by
  have:=h.1;unfold IS ab GQ;split<;>split<;>omega
 exact⟨by omega,by rw[this];exact h.2.2,h.2.1⟩
theorem AFD {S D:Int} (h:Fit S D) (hS:S≠0):Fit (IS S D) (ab S):=by
 have:=ACj (n:=14000) (S:=S) (D:=D) ⟨h.1,h.2.1,h.2.2⟩ hS;exact⟨this.1,this.2.1,this.2.2⟩
theorem AAk {S D:Int} (h:Fit S D):Ev (λk=>PZ.f k (Rq S D).1 (Rq S D).2.1 (Rq S D).2.2) (if S=0 then(false,[],[],4) else((Rq (IS S D) (ab S)).1,(Rq (IS S D) (ab S)).2.1,(Rq (IS S D) (ab S)).2.2,0)):=by
 obtain⟨N,E,h1,h2,h3,h4,h5,h6,h7,h8⟩:=TN S h.1;have b1:=B9 h4;have b2:=B9 h5;have hh:=h.2;rw[h1];dsimp only;have B:=E8 (l:=dg N) (BO (by omega));rw[AY h2] at B;refine Ev.bind B ?_;by_cases hz:S=0
 · rw[if_pos hz]
   exact Ev.AI (by rw[h7.2 hz];rfl) (Ev.same rfl)
 · rw[if_neg hz]
   have hN:0<N:=by
    have:N≠0:=λk=>hz (h7.1 k)
    omega
   have:=Ds hN;refine Ev.AO (by omega) (Ev.bind (bN (APs h3) (by omega)) (Ev.bind (bN h2 (by omega)) (Ev.same ?_)));have e:Rq (IS S D) (ab S)=(decide (S<0),dg E,dg N):=by
    have a0:0<ab S:=by
     have:=DG S;have:ab S≠0:=λk=>hz (PY.1 k)
     omega
    have e1:Rq (IS S D) (ab S)=Rq (GQ (decide (S<0)) E) N:=by
     refine dh a0 hN ?_;unfold IS GQ;cases decide (S<0)
     · simp only[ARg,if_false];rw[AP6,h6,AP6]
     · simp only[if_true];rw[ARS,ARS,AP6,h6,AP6]
    rw[e1,ACk _ h3,I3,h8,AQs,AQs]
   rw[e]
theorem AAl {S D S' D':Int} (h:Fit S D) (h':Fit S' D'):Ev (λk=>I4.f k (Rq S D).1 (Rq S D).2.1 (Rq S D).2.2 (Rq S' D').1 (Rq S' D').2.1 (Rq S' D').2.2) (if S'=0 then(false,[],[],4) else((Rq (S*IS S' D') (D*ab S')).1,(Rq (S*IS S' D') (D*ab S')).2.1,(Rq (S*IS S' D') (D*ab S')).2.2,0)):=by
 refine Ev.bind (AAk h') ?_;by_cases hz:S'=0
 · rw[if_pos hz,if_pos hz]
   exact Ev.AO (by decide) (Ev.same rfl)
 · rw[if_neg hz,if_neg hz]
   exact Ev.AI rfl (Ev.bind (jz h (AFD h' hz)) (Ev.same rfl))
theorem AAm {S D S' D':Int} (h:Fit S D) (h':Fit S' D') (hF:Fit (S*D'-S'*D) (D*D')):Ev (λk=>Pa.f k (Rq S D).1 (Rq S D).2.1 (Rq S D).2.2 (Rq S' D').1 (Rq S' D').2.1 (Rq S' D').2.2) (AFB (S*D'-S'*D)) :=
 Ev.bind (jx h h') (Ev.bind (AAh hF) (Ev.same rfl))
theorem r5 {S D S' D':Int} (h:Fit S D) (h':Fit S' D') (hz:S'≠0):Ev (λk=>Kw.f k (Rq S D).1 (Rq S D).2.1 (Rq S D).2.2 (Rq S' D').1 (Rq S' D').2.1 (Rq S' D').2.2) (Rq (S*IS S' D') (D*ab S')):=by
 obtain⟨N,E,h1,h2,h3,h4,h5,h6,h7⟩:=dZ h;obtain⟨N',E',k1,k2,k3,k4,k5,k6,k7⟩:=dZ h';have kN:0<N':=by
  have:N'≠0:=λk=>hz (k7.1 k)
  omega
 rw[h1,k1];dsimp only;have lN:=AQ N;have lE:=AQ E;have lN':=AQ N';have lE':=AQ E';have M1:=M6 (a:=dg N) (b:=dg E') (BO (by omega)) (BO (by omega)) (by omega) (by omega);have M2:=M6 (a:=dg E) (b:=dg N') (BO (by omega)) (BO (by omega)) (by omega) (by omega);rw[AY h2,AY (APs k3)] at M1;rw[AY (APs h3),AY k2] at M2;have b1:=Fo h2 (APs k3);have b2:=Fo (APs h3) k2;have d0:0<E*N':=AQ0 h3 kN;have n0:0<=N*E':=AP7 h2 (APs k3);have a0:0<ab S':=by
  have:=DG S';have:ab S'≠0:=λk=>hz (PY.1 k)
  omega
 have dd:0<D*ab S':=AQ0 h.1 a0;refine Ev.bind M1 (Ev.bind M2 (Ev.bind (AFE _ n0 d0 (by omega) (by omega)) (Ev.same ?_)));have e:Rq (GQ (decide (S<0) !=decide (S'<0)) (N*E')) (E*N')=Rq (S*IS S' D') (D*ab S'):=by
  refine dh d0 dd ?_;rw[<-m9];unfold IS;have q:GQ (decide (S'<0)) E'*ab S'=GQ (decide (S'<0)) D'*N':=by
   have e:ab S'=GQ (decide (S'<0)) S':=by
    unfold ab GQ;by_cases k:S'<0
    · rw[if_pos k,if_pos (decide_eq_true k)]
    · rw[if_neg k,if_neg (by rw[decide_eq_false k];decide)]
   rw[e,m9,bne_self_eq_false];unfold GQ at k6 ⊢;revert k6;cases decide (S'<0)
   · simp only[ARg,if_false];intro k6;rw[AP6,<-k6,AP6]
   · simp only[if_true,ARg,if_false];intro k6;rw[ARS] at k6;rw[ARS,AP6 D' N',AP6 E' S',<-k6]
  generalize GQ (decide (S<0)) N=σ at *;generalize GQ (decide (S'<0)) E'=σ' at *;generalize GQ (decide (S'<0)) D'=δ at *;have a1:σ*σ'*(D*ab S')=(σ*D)*(σ'*ab S'):=by grind
  have a2:S*δ*(E*N')=(S*E)*(δ*N'):=by grind
  rw[a1,a2,h6,q]
 rw[<-e]
theorem AJE (S:Int) {D:Int} (hD:0<D):RR (Rq S D).1 (Rq S D).2.1 (Rq S D).2.2:=by
 obtain⟨N,E,h1,h2,h3,h4,h5,h6,h7,h8⟩:=TN S hD;rw[h1];refine⟨by rw[AY h2],by rw[AY (APs h3)],λk=> ?_,λk q=> ?_,by rw[AY h2,AY (APs h3)];exact h8⟩
 · have:=(Cq (APs h3)).1 k
   omega
 · have:S<0:=of_decide_eq_true k
   have:=h7.1 ((Cq h2).1 q);omega
theorem ACl {a b G:Int} (hG:0<G) (hq:a/G=b/G) (hz:a%G=0↔b%G=0):(-a)/G=(-b)/G/\((-a)%G=0↔(-b)%G=0):=by
 have key : ∀x:Int,(x%G=0->(-x)/G= -(x/G)/\(-x)%G=0)/\(x%G≠0->(-x)/G= -(x/G)-1/\(-x)%G=G-x%G):=by
  intro x;have h1:=AP9 x G;have h2:=AQJ x (show G≠0 by omega);have h3:=AQG x hG;constructor
  · intro h
    exact(ASe hG).2 ⟨by rw[Int.mul_neg];omega,by omega,by omega⟩
  · intro h
    exact(ASe hG).2 ⟨by rw[Int.mul_sub,Int.mul_neg,AQQ];omega,by omega,by omega⟩
 have ka:=key a;have kb:=key b;have b3:=AQG b hG;have a3:=AQG a hG;by_cases h:a%G=0
 · have h':=hz.1 h
   exact⟨by rw[(ka.1 h).1,(kb.1 h').1,hq],by simp[(ka.1 h).2,(kb.1 h').2]⟩
 · have h':=λk=>h (hz.2 k)
   refine⟨by rw[(ka.2 h).1,(kb.2 h').1,hq], ?_⟩;rw[(ka.2 h).2,(kb.2 h').2];omega
theorem r6 {a b G:Int} (K:Int) (hq:a/G=b/G) (hz:a%G=0↔b%G=0) (hG:0<G):(G*K+a)/G=(G*K+b)/G/\((G*K+a)%G=0↔(G*K+b)%G=0):=by
 rw[ARa (G*K),ARa (G*K),AQj _ _ (by omega),AQj _ _ (by omega),AQt,AQt];exact⟨by rw[hq],hz⟩
theorem AGH {n:Int} (h0:0<=n) (s:Nat):st n s<=n/2^s+1:=by
 unfold st;split<;>omega
theorem AHm {m e n f:Int} (hm0:0<=m) (hm:m<9007199254740992) (hn0:0<=n) (hn:n<9007199254740992) (hef:f<=e) (hf : -1074<=f) (hw:e= -1074\/4503599627370496<=m) {up s:Nat} (hup:(up:Int)=min (e-f) 10) (hs:e-up-f=s) :
 Rd (m*2^up+st n s) (e-up)=Rd (m*2^(e-f).toNat+n) f /\
 (m*2^up>st n s↔m*2^(e-f).toNat>n)/\(m*2^up<st n s↔m*2^(e-f).toNat<n) /\
 (m*2^up>st n s->Rd (m*2^up-st n s) (e-up)=Rd (m*2^(e-f).toNat-n) f) /\
 (m*2^up<st n s->Rd (st n s-m*2^up) (e-up)=Rd (n-m*2^(e-f).toNat) f):=by
 rcases(show s=0\/0<s by omega) with rfl | hs0
 · rw[AFF,show(e-f).toNat=up by omega,show e-(up:Int)=f by omega]
   exact⟨rfl,Iff.rfl,Iff.rfl,λ_=>rfl,λ_=>rfl⟩
 · obtain rfl:up=10:=by omega
   have hm2:4503599627370496<=m:=(by omega);have hG:(0:Int)<2^s:=pow_pos s;have hG2:(0:Int)<2^(s+1):=pow_pos _;have hge:(2:Int)<=2^s:=by
    have:=A7 (a:=1) (b:=s) (by omega);omega
   have eX:m*2^(e-f).toNat=2^(s+1)*(m*512):=by
    rw[show(e-f).toNat=s+1+9 by omega,AQK];generalize (2:Int)^(s+1)=G;rw[show(2:Int)^9=512 from rfl]
    grind
   have hY:=AGH hn0 s;have hY0:=j6 hn0 s;have hYn:n/2^s<=n:=AQv _ hn0;have hc:=zB n s;have hcn:=ACl hG2 hc.1 hc.2;have ca:=r6 (m*512) hc.1 hc.2 hG2;have cn:=r6 (m*512) hcn.1 hcn.2 hG2;have hX:4503599627370496*512*2^(s+1)<=2^(s+1)*(m*512):=by
    rw[AP6];exact AQD (by omega) (by omega)
   have ee:e-((10:Nat):Int)=f+s:=(by omega);have e10:m*2^10=m*1024:=rfl;rw[ee,eX,e10];have p1:(2:Int)^(s+1)=2^s*2:=AQH ..;have s1:(m*1024+st n s)*2^s=2^(s+1)*(m*512)+st n s*2^s:=(by rw[p1];grind);have s2:(m*1024-st n s)*2^s=2^(s+1)*(m*512)+ -(st n s*2^s):=(by rw[p1];grind);have u1 : ∀M:Int,4503599627370496*511*2^(s+1)<=M->f+((s+1:Nat):Int)+1<=un M f:=by
    intro M h;have:(2:Int)^(60+(s+1))<=M:=by
     rw[AQK];have:(2:Int)^60*2^(s+1)<=4503599627370496*511*2^(s+1):=AP2 (by decide) (by omega);omega
    have:=VG this;unfold un;omega
   have AL4:(4503599627370496:Int)*2<=4503599627370496*2^(s+1):=(by omega);have gt1:m*1024>st n s:=(by omega);have gt2:2^(s+1)*(m*512)>n:=(by omega);refine⟨?_,by omega,by omega,λ_=> ?_,λh=>by omega⟩
   · rw[<-Im (show 0<m*1024+st n s by omega) (f+s) s,show f+(s:Int)-s=f by omega,s1]
     exact(Pb (g:=s+1) (by omega) (by have:=AP7 hY0 (APs hG);omega) ca.1.symm ca.2.symm (u1 _ (by omega))).symm
   · rw[<-Im (show 0<m*1024-st n s by omega) (f+s) s,show f+(s:Int)-s=f by omega,s2,show 2^(s+1)*(m*512)-n=2^(s+1)*(m*512)+ -n by omega]
     have pos:0<2^(s+1)*(m*512)+ -(st n s*2^s):=(by rw[<-s2];exact AQ0 (by omega) hG);exact(Pb (g:=s+1) (by omega) pos cn.1.symm cn.2.symm (u1 _ (by omega))).symm
def fsF (a b:Int):Int :=
 if fs a=fs b then KG (fs a) (Rd (pm a*2^(pe a-min (pe a) (pe b)).toNat+pm b*2^(pe b-min (pe a) (pe b)).toNat) (min (pe a) (pe b)))
 else if pm a*2^(pe a-min (pe a) (pe b)).toNat=pm b*2^(pe b-min (pe a) (pe b)).toNat then 0
 else if pm a*2^(pe a-min (pe a) (pe b)).toNat>pm b*2^(pe b-min (pe a) (pe b)).toNat then KG (fs a) (Rd (pm a*2^(pe a-min (pe a) (pe b)).toNat-pm b*2^(pe b-min (pe a) (pe b)).toNat) (min (pe a) (pe b)))
 else KG (fs b) (Rd (pm b*2^(pe b-min (pe a) (pe b)).toNat-pm a*2^(pe a-min (pe a) (pe b)).toNat) (min (pe a) (pe b)))
theorem ACm (a b:Int):fsF a b=fsF b a:=by
 unfold fsF;rw[show min (pe b) (pe a)=min (pe a) (pe b) by omega];generalize pm a*2^(pe a-min (pe a) (pe b)).toNat=X;generalize pm b*2^(pe b-min (pe a) (pe b)).toNat=Y;by_cases h:fs a=fs b
 · rw[if_pos h,if_pos h.symm,h,ARa]
 · have h' : ¬fs b=fs a:=λk=>h k.symm
   rw[if_neg h,if_neg h'];rcases AR1 X Y with h1 | h1 | h1
   · rw[if_neg (show¬X=Y by omega),if_neg (show¬X>Y by omega),if_neg (show¬Y=X by omega),if_pos (show Y>X from h1)]
   · rw[if_pos h1,if_pos h1.symm]
   · rw[if_neg (show¬X=Y by omega),if_pos (show X>Y from h1),if_neg (show¬Y=X by omega),if_neg (show¬Y>X by omega)]
def RX (a b:Int):Int:=if fk a=4\/fk b=4 then gw else if fk a=3/\fk b=3/\a≠b then gw else if fk a=3 then a else if fk b=3 then b else fsF a b
def fl (b:Int):Int:=if fk b=4 then gw else(b+9223372036854775808)%18446744073709551616
def cl (b:Int):Int:=if fk b=4 then gw else b
theorem AHn (b:Int):U (fl b):=by unfold fl gw U;split<;>omega
theorem KH {x:Int} (h0:0<=x) (h1:x<9223372036854775808) (neg:Bool):U (KG neg x)/\fs (KG neg x)=neg/\fx (KG neg x)=x/4503599627370496/\fr (KG neg x)=x%4503599627370496:=by
 unfold KG U fs fx fr;cases neg
 · simp only[ARg,if_false]
   exact⟨by omega,decide_eq_false (by omega),by omega,by first | trivial | omega⟩
 · simp only[if_true]
   exact⟨by omega,decide_eq_true (by omega),by omega,by omega⟩
theorem AJF (a b:Int):U (fsF a b):=by
 have key : ∀(n:Bool) (m e:Int),U (KG n (Rd m e)):=λn m e=>(KH (MF m e).1 (by have:=(MF m e).2;unfold Xz at this;omega) n).1
 unfold fsF;split
 · exact key ..
 · split
   · unfold U;omega
   · split
     · exact key ..
     · exact key ..
theorem KI {a b:Int} (ha:U a) (hb:U b):U (RX a b):=by
 have:U gw:=by unfold U gw;omega
 unfold RX;split
 · exact this
 · split
   · exact this
   · split
     · exact ha
     · split
       · exact hb
       · exact AJF a b
def wJ (a b:Int):Int:=RX a (fl b)
def Pc (a b:Int):Int:=if fk a=4\/fk b=4\/(fk a=3/\fk b=0)\/(fk a=0/\fk b=3) then gw else if fk a=3\/fk b=3 then KG (fs a !=fs b) Xz else KG (fs a !=fs b) (Rd (pm a*pm b) (pe a+pe b))
theorem nA (n:Bool) (m e:Int):U (KG n (Rd m e)):=(KH (MF m e).1 (by have:=(MF m e).2;unfold Xz at this;omega) n).1
theorem dm (n:Bool):U (KG n Xz):=(KH (x:=Xz) (by decide) (by decide) n).1
theorem Y2:U gw:=by unfold U gw;omega
theorem Gi (a b:Int):U (Pc a b):=by
 unfold Pc;split
 · exact Y2
 · split
   · exact dm _
   · exact nA ..
def qd (m e n f:Int):Int :=
 if m*2^(63-bl m).toNat*18446744073709551616%(n*2^(64-bl n).toNat)=0 then Rd (m*2^(63-bl m).toNat*18446744073709551616/(n*2^(64-bl n).toNat)) (e-f+bl m-bl n-63)
 else Rd (2*(m*2^(63-bl m).toNat*18446744073709551616/(n*2^(64-bl n).toNat))+1) (e-f+bl m-bl n-64)
theorem r7 (m e n f:Int):0<=qd m e n f/\qd m e n f<=Xz:=by unfold qd;split<;>exact MF ..
def fdiv (a b:Int):Int:=if fk a=4\/fk b=4\/(fk a=3/\fk b=3)\/(fk a=0/\fk b=0) then gw else if fk a=3\/fk b=0 then KG (fs a !=fs b) Xz else if fk a=0\/fk b=3 then KG (fs a !=fs b) 0 else KG (fs a !=fs b) (qd (pm a) (pe a) (pm b) (pe b))
theorem dr (a b:Int):U (fdiv a b):=by
 unfold fdiv;split
 · exact Y2
 · split
   · exact dm _
   · split
     · exact(KH (x:=0) (by decide) (by decide) _).1
     · exact(KH (r7 ..).1 (by have:=(r7 (pm a) (pe a) (pm b) (pe b)).2;unfold Xz at this;omega) _).1
theorem AFG {q E:Int} (h:4611686018427387904<=q):Rd (q/2*2+1) E=Rd (2*q+1) (E-1):=by
 rw[<-Im (show 0<q/2*2+1 by omega) E 1,ARX,show E-((1:Nat):Int)=E-1 from rfl];refine Pb (g:=2) (by omega) (by omega) (by omega) (by omega) ?_;have:=VG (x:=(q/2*2+1)*2) (n:=55) (by omega);unfold un;omega
theorem AFH {x:Int} (h:U x):Go.bits .and .u64 x 9223372036854775808=x/9223372036854775808*9223372036854775808:=by
 obtain⟨h0,h1⟩:=h;obtain⟨a,rfl⟩:=AP0 h0;have e:=AFI a (2^63) (by omega) (by decide);rw[show(9223372036854775808:Int)=((2^63:Nat):Int) from rfl,e];rcases AQS a (2^63) with h2 | h2
 · have:a &&& 2^63=0:=by
    refine ASf λi=> ?_
    rw[Nat.testBit_and,ASE,Nat.zero_testBit];by_cases hi:63=i
    · subst hi
      rw[ASM h2];simp
    · simp[hi]
   rw[this];omega
 · obtain⟨b,rfl⟩ : ∃b,a=b+2^63:=⟨a-2^63,by omega⟩
   have e2:=ASm (show b<2^63 by omega) 1;rw[AS9] at e2;have:(b+2^63) &&& 2^63=2^63:=by
    rw[ASW,e2];refine ASf λi=> ?_
    rw[Nat.testBit_and,ASR,ASE];by_cases hi:63=i<;>simp[hi]
   rw[this];omega
theorem AHo {x:Int} (h0:0<=x) (h1:x<9223372036854775808):Go.bits .or .u64 x 9223372036854775808=x+9223372036854775808:=by
 rw[or_comm _ _ h0 (by omega) (by omega) (by omega),F6 63 _ _ (by omega) (by omega) (by omega) h0 (by omega) (by omega)];omega
theorem nB (a:Nat) (h:a<2^63):a ^^^ 2^63=a+2^63:=by
 have e:=ASm h 1;rw[AS9] at e;rw[ASW,e];refine ASf λi=> ?_
 rw[Nat.testBit_xor,ASR,ASE];by_cases hi:63=i
 · subst hi
   rw[ASM h];simp
 · simp[hi]
theorem AFJ {x:Int} (h:U x):Go.bits .xor .u64 x 9223372036854775808=(x+9223372036854775808)%18446744073709551616:=by
 obtain⟨h0,h1⟩:=h;obtain⟨a,rfl⟩:=AP0 h0;have ha:a<2^64:=by omega
 have e1:Go.bits .xor .u64 (a:Int) 9223372036854775808=IntKind.u64.wrap ((a ^^^ 2^63:Nat):Int):=by
  rw[show(9223372036854775808:Int)=((2^63:Nat):Int) from rfl];simp only[Go.bits,BitVec.ofInt_natCast,BitVec.toNat_xor,BitVec.toNat_ofNat];rw[show IntKind.bits .u64=64 from rfl,ASa ha,ASa (show 2^63<2^64 by decide)]
 rw[e1,wu];rcases AQS a (2^63) with h2 | h2
 · rw[nB a h2]
   omega
 · obtain⟨b,rfl⟩ : ∃b,a=b+2^63:=⟨a-2^63,by omega⟩
   rw[<-nB b (by omega),Nat.xor_assoc,Nat.xor_self,Nat.xor_zero,nB b (by omega)];omega
theorem KJ {b:Int} (h:U b):DK.f b=some (fx b):=by
 unfold U at h;unfold DK.f fx;rw[AJG _ (by omega) (by omega),AE (by omega) (by omega)]
theorem CJ {b:Int} (h:U b):A9.f b=some (fk b):=by
 unfold A9.f;rw[KJ h,zC b h.1 h.2];show(if fx b=2047 then(if fr b=0 then some 3 else some 4) else if fx b=0 then(if fr b=0 then some 0 else some 1) else some 2)=some (fk b);unfold fk;split
 · split<;>rfl
 · split
   · split<;>rfl
   · rfl
theorem Dh {b:Int} (h:U b):CX.f b=some (fs b):=by
 unfold CX.f;rw[AFH h];unfold U at h;unfold fs
 congr 1
 by_cases hb:b>=9223372036854775808
 · rw[decide_eq_true hb,bne_iff_ne];omega
 · rw[decide_eq_false hb,bne_eq_false_iff_eq];omega
theorem Ip {b:Int} (h:U b):Ev (λk=>Ax.f k b) (if fx b=2047 then(false,0,0,false) else(fs b,pm b,pe b,true)):=by
 have hx:= @Wa b;have hr:= @OT b;have hk:=Wb b;have e52:Go.bits .and .u64 b 4503599627370495=fr b:=zC b h.1 h.2;refine Ev.AZ (CJ h) ?_;rw[e52];have key : ∀t:Bool,(t=true↔fx b=2047)->Ev (λk=>Ax.j0 k b (fr b) (fk b) t) (if fx b=2047 then(false,0,0,false) else(fs b,pm b,pe b,true)):=by
  intro t ht;refine Ev.eqv (λk=>Ax.j0.eq_1 ..) ?_;by_cases hc:fx b=2047
  · rw[if_pos hc]
    exact Ev.AI (ht.2 hc) (Ev.same rfl)
  · rw[if_neg hc]
    refine Ev.AO (λk=>hc (ht.1 k)) ?_;have hk2:fk b=2↔fx b≠0:=by
     unfold fk;rw[if_neg hc];by_cases h0:fx b=0
     · rw[if_pos h0]
       split<;>omega
     · rw[if_neg h0];omega
    unfold pm pe;by_cases h0:fx b=0
    · rw[if_pos h0,if_pos h0]
      exact Ev.AO (by omega) (Ev.AZ (Dh h) (Ev.same rfl))
    · rw[if_neg h0,if_neg h0]
      refine Ev.AI (by omega) (Ev.AZ (Dh h) (Ev.AZ (KJ h) (Ev.same ?_)));rw[AE (by omega) (by omega),or_comm _ _ (by omega) (by omega) (by omega) (by omega),F6 52 _ _ (by omega) (by omega) (by omega) (by omega) (by omega) (by omega),ARa]
 by_cases h3:fk b=3
 · exact Ev.AI h3 (key _ (by rw[h3];simp;omega))
 · refine Ev.AO h3 (key _ ?_)
   rw[beq_iff_eq];omega
theorem Jb {x:Int} (neg:Bool) (h0:0<=x) (h1:x<9223372036854775808):DM.f neg x=some (KG neg x):=by
 unfold DM.f KG;rw[AHo h0 h1];cases neg<;>rfl
theorem GU (neg:Bool):CY.f neg=some (KG neg Xz):=by
 unfold CY.f;rw[Jb neg (by decide) (by decide)];rfl
theorem En:B5.f=some gw:=rfl
theorem Ny {b:Int} (h:U b):Di.f b=some (cl b):=by
 unfold Di.f cl;rw[CJ h];show(if fk b=4 then _ else _)=_;split<;>rfl
theorem Pd {b:Int} (h:U b):EV.f b=some (fl b):=by
 unfold EV.f fl;rw[CJ h,AFJ h];show(if fk b=4 then _ else _)=_;split<;>rfl
theorem wK {m u e:Int} (h0:0<m) (h1:m<18446744073709551616) (h:64<=u-e):m*2^(e-u).toNat%2^(u-e).toNat≠0:=by
 have:=A7 (a:=64) (b:=(u-e).toNat) (by omega);rw[show(e-u).toNat=0 by omega,AQA,AQQ,AQU (by omega) (by omega)];omega
theorem AFK {m e:Int} (hm:U m) (he : -5000<=e) (he':e<=5000):mx (wrap64 ((wrap64 (e+bl m))-53)) (-1074)=un m e:=by
 have h1:=RY hm.2;have h2:=CM m;rw[AE (n:=e+bl m) (by omega) (by omega),AE (by omega) (by omega)];unfold mx un;generalize bl m=n at *;split<;>omega
theorem UC {w u:Int} (neg:Bool) (h0:0<=w) (h1:w<9007199254740992) (hu0 : -1074<=u) (r8:u<=971) (hw:u= -1074\/4503599627370496<=w) :
 Ev (λk=>BA.j2 k neg w u) (KG neg ((u+1074)*4503599627370496+w),true):=by
 refine Ev.eqv (λk=>BA.j2.eq_1 ..) ?_;by_cases h:w<4503599627370496
 · refine Ev.AI h (Ev.AZ (Jb neg h0 (by omega)) (Ev.same ?_))
   rw[show(u+1074)*4503599627370496+w=w by omega]
 · refine Ev.AO h ?_
   rw[zC w h0 (by omega),AE (by omega) (by omega),DY (n:=u+1075) (by omega) (by omega),DY (by omega) (by omega),F6 52 _ _ (by omega) (by omega) (by omega) (by omega) (by omega) (by omega)];rw[show(u+1075)*4503599627370496+w%4503599627370496=(u+1074)*4503599627370496+w by omega];exact Ev.AZ (Jb neg (by omega) (by omega)) (Ev.same rfl)
theorem Jc {m e:Int} (neg:Bool) (hm:U m) (he0 : -9223372036854775808<=e) (he1:e<=9223372036854775807):Ev (λk=>BA.f k neg m e) (Mk neg m e):=by
 obtain⟨hm0,hm1⟩:=id hm;have hu:un m e=max (bl m+e-53) (-1074):=rfl;by_cases hz:m=0
 · refine Ev.AI hz (Ev.AZ (Jb neg (by omega) (by omega)) (Ev.same ?_))
   rw[hz,Wc]
 · have hp:0<m:=by omega
   have b1:=Ds hp;have b2:=RY hm1;refine Ev.AO hz ?_;by_cases h1:e>2000
   · refine Ev.AI h1 (Ev.eqv (λk=>BA.j0.eq_1 ..) (Ev.AI rfl (Ev.same ?_)))
     rw[Qj neg hz (.inl (by omega))]
   · refine Ev.AO h1 (Ev.eqv (λk=>BA.j0.eq_1 ..) ?_)
     by_cases h2:e < -2000
     · refine Ev.AI (decide_eq_true h2) (Ev.same ?_)
       rw[Qj neg hz (.inr (wK hp hm1 (by omega)))]
     · refine Ev.AO (by rw[decide_eq_false h2];decide) (Ev.bind (Fp hm) ?_)
       have hq:=AAn (e:=e) hp;rw[AFK hm (by omega) (by omega),AE (by omega) (by omega)];by_cases h3:un m e>971
       · refine Ev.AI h3 (Ev.eqv (λk=>BA.j1.eq_1 ..) (Ev.AI rfl (Ev.same ?_)))
         rw[Qj neg hz (.inl h3)]
       · refine Ev.AO h3 (Ev.eqv (λk=>BA.j1.eq_1 ..) ?_)
         by_cases h4:un m e-e>=64
         · refine Ev.AI (decide_eq_true h4) (Ev.same ?_)
           rw[Qj neg hz (.inr (wK hp hm1 (by omega)))]
         · refine Ev.AO (by rw[decide_eq_false h4];decide) ?_
           by_cases h5:un m e-e>0
           · refine Ev.AI h5 (Ev.AI (by omega) ?_)
             obtain⟨s,hs⟩ : ∃s:Nat,un m e-e=s:=⟨(un m e-e).toNat,by omega⟩;have hps:=pow_pos s;have hd:=AP9 m (2^s);have hr:=AQJ m (show(2:Int)^s≠0 by omega);have zD:0<=m/2^s:=AQC hm0 (by omega);have hd1:0<=m/2^s*2^s:=AP7 zD (by omega);have e0:m*2^(e-un m e).toNat=m:=(by rw[show(e-un m e).toNat=0 by omega,AQA,AQQ]);rw[AP6] at hd;rw[e0] at hq;rw[hs] at hq ⊢;rw[Wd _ _ (by omega),Ld _ _ (by omega)];rw[APr] at hq ⊢;rw[AQU hd1 (by omega)];by_cases h6:m/2^s*2^s=m
             · refine Ev.AI h6 ((UC neg hq.1 hq.2.1 (by omega) (by omega) hq.2.2).dc ?_)
               have h7:m%2^s=0:=(by omega);rw[RZ neg hz (by omega) (by rw[e0,hs,APr];exact h7),Ra hp (by omega) (by rw[e0,hs,APr];exact h7),e0,hs,APr]
             · refine Ev.AO h6 (Ev.same ?_)
               rw[Qj neg hz (.inr (by rw[e0,hs,APr];omega))]
           · refine Ev.AO h5 ?_
             rw[AE (by omega) (by omega)];refine Ev.AI (by omega) ?_;obtain⟨t,ht⟩ : ∃t:Nat,-(un m e-e)=t:=⟨(-(un m e-e)).toNat,by omega⟩;have e1:(e-un m e).toNat=t:=(by omega);have e2:(un m e-e).toNat=0:=(by omega);rw[e1,e2,AQA,AQs] at hq;rw[ht,Ld _ _ (by omega),APr,AQU hq.1 (by omega)];refine(UC neg hq.1 hq.2.1 (by omega) (by omega) hq.2.2).dc ?_;rw[RZ neg hz (by omega) (by rw[e2,AQA,ARV]),Ra hp (by omega) (by rw[e2,AQA,ARV]),e1,e2,AQA,AQs]
theorem UD {b:Int} (h:U b):MG.f b=some (fx b):=KJ h
theorem Wg {b:Int} (h:U b):L7.f b=some (fr b):=by
 unfold L7.f;rw[zC b h.1 h.2];rfl
theorem Pe {b:Int} (h:U b):YI.f b=some (fk b):=by
 have hx:= @Wa b;have hr:= @OT b;unfold YI.f;rw[UD h,Wg h];show(if fx b=2047 then(if fr b=0 then some 3 else some 4) else if fx b>0 then some 2 else if fr b>0 then some 1 else some 0)=some (fk b);unfold fk;by_cases h1:fx b=2047
 · rw[if_pos h1,if_pos h1]
   split<;>rfl
 · rw[if_neg h1,if_neg h1]
   by_cases h2:fx b=0
   · rw[if_neg (show¬fx b>0 by omega),if_pos h2]
     by_cases h3:fr b=0
     · rw[if_neg (show¬fr b>0 by omega),if_pos h3]
     · rw[if_pos (show fr b>0 by omega),if_neg h3]
   · rw[if_pos (show fx b>0 by omega),if_neg h2]
theorem Rb {b:Int} (h:U b):dw.f b=some (fs b):=by
 unfold U at h;unfold dw.f fs
 congr 1
 by_cases hb:b>=9223372036854775808
 · rw[decide_eq_true hb,beq_iff_eq];omega
 · rw[decide_eq_false hb,beq_eq_false_iff_ne];omega
theorem iK {b:Int} (h:U b):VH.f b=some (pm b,pe b):=by
 have hx:= @Wa b;have hr:= @OT b;unfold VH.f;rw[UD h,Wg h];show(if fx b=0 then some (fr b,-1074) else some (IntKind.u64.wrap (fr b+4503599627370496),wrap64 (fx b-1075)))=_;unfold pm pe;split
 · rfl
 · rw[DY (by omega) (by omega),AE (by omega) (by omega)]
theorem GJ {x:Int} (neg:Bool) (h0:0<=x) (h1:x<9223372036854775808):GV.f neg x=some (KG neg x):=by
 unfold GV.f KG;rw[DY (by omega) (by omega)];cases neg<;>rfl
theorem Rc (neg:Bool):Rf.f neg=some (KG neg Xz):=by
 unfold Rf.f;rw[GJ neg (by decide) (by decide)];rfl
theorem Y3:r9.f=some gw:=rfl
theorem iL (neg:Bool) (n:Nat) : ∀m e:Int,(e+1074).toNat<=n->0<m->m<9007199254740992-> -1074<=e->e<=3000->Ev (λk=>Bl.l1 k neg m e) (Mk neg m e):=by
 have fin : ∀m e:Int,0<m->m<9007199254740992-> -1074<=e->e<=3000->(e= -1074\/4503599627370496<=m)->Ev (λk=>Bl.j4 k neg m e) (Mk neg m e):=by
  intro m e h0 h1 h2 h3 hw;have hu:un m e=e:=by
   rcases AQf m 4503599627370496 with h | h
   · have:=CA (x:=m) (n:=52) h
     unfold un;omega
   · rw[ACn (n:=52) h h1]
     omega
  refine Ev.step (λk=>Bl.j4.eq_2 ..) ?_;have e0:m*2^(e-un m e).toNat%2^(un m e-e).toNat=0:=by rw[hu,show(e-e).toNat=0 by omega,AQA,ARV]
  by_cases h:m<4503599627370496
  · refine Ev.AI h (Ev.AZ (GJ neg (by omega) (by omega)) (Ev.same ?_))
    rw[RZ neg (by omega) (by omega) e0,(nC h0 (by omega) h2 (by omega) hw).2.2.2];rw[show(e+1074)*4503599627370496+m=m by omega]
  · refine Ev.AO h ?_
    by_cases h4:e>971
    · refine Ev.AI h4 (Ev.same ?_)
      rw[Qj neg (by omega) (.inl (by omega))]
    · refine Ev.AO h4 ?_
      rw[AE (by omega) (by omega),DY (n:=e+1075) (by omega) (by omega),DY (n:=(e+1075)*4503599627370496) (by omega) (by omega),DY (n:=(e+1075)*4503599627370496+m) (by omega) (by omega),DY (by omega) (by omega)];refine Ev.AZ (GJ neg (by omega) (by omega)) (Ev.same ?_);rw[RZ neg (by omega) (by omega) e0,(nC h0 (by omega) h2 (by omega) hw).2.2.2];rw[show(e+1075)*4503599627370496+m-4503599627370496=(e+1074)*4503599627370496+m by omega]
 induction n with
 | zero =>
   intro m e hn h0 h1 h2 h3;refine Ev.step (λk=>Bl.l1.eq_2 ..) ?_;by_cases h:m<4503599627370496
   · exact Ev.AI h (Ev.AO (by omega) (fin m e h0 h1 h2 h3 (.inl (by omega))))
   · exact Ev.AO h (fin m e h0 h1 h2 h3 (.inr (by omega)))
 | succ n ih =>
   intro m e hn h0 h1 h2 h3;refine Ev.step (λk=>Bl.l1.eq_2 ..) ?_;by_cases h:m<4503599627370496
   · refine Ev.AI h ?_
     by_cases h4:e> -1074
     · refine Ev.AI h4 ?_
       rw[DY (by omega) (by omega),AE (by omega) (by omega),<-sA neg h0 e];exact ih (m*2) (e-1) (by omega) (by omega) (by omega) (by omega) (by omega)
     · exact Ev.AO h4 (fin m e h0 h1 h2 h3 (.inl (by omega)))
   · exact Ev.AO h (fin m e h0 h1 h2 h3 (.inr (by omega)))
theorem iM (neg:Bool) (n:Nat) : ∀m e:Int,m.toNat<=n->0<m->m<18446744073709551616-> -1200<=e->e+bl m<=2000->Ev (λk=>Bl.l0 k neg m e) (Mk neg m e):=by
 induction n with
 | zero=>intro m e hn h0;omega
 | succ n ih =>
   intro m e hn h0 h1 h2 h3;have hb:=Ds h0;refine Ev.step (λk=>Bl.l0.eq_2 ..) ?_;rw[AQr (by omega),AQd (by omega)];by_cases ho:m%2=0
   · refine Ev.AI ho ?_
     have qB:=Rg (x:=m) (s:=1) (by omega);rw[ARX] at qB;rw[DY (by omega) (by omega),AE (by omega) (by omega)];have hs:=sA neg (show 0<m/2 by omega) (e+1);rw[show m/2*2=m by omega,show e+1-1=e by omega] at hs;rw[hs];exact ih (m/2) (e+1) (by omega) (by omega) (by omega) (by omega) (by omega)
   · refine Ev.AO ho ?_
     have hu:un m e=max (bl m+e-53) (-1074):=rfl;have odd:un m e>e->Mk neg m e=(0,false):=by
      intro h;refine Qj neg (by omega) (.inr ?_);obtain⟨j,hj⟩ : ∃j:Nat,(un m e-e).toNat=j+1:=⟨(un m e-e).toNat-1,by omega⟩;rw[show(e-un m e).toNat=0 by omega,hj,AQA,AQQ,AQH,AP6,Gz _ (by omega)];have:=AQJ (m/2) (show(2:Int)^j≠0 by have:=pow_pos j;omega);omega
     by_cases h4:m>=9007199254740992
     · refine Ev.AI h4 (Ev.step (λk=>Bl.j2.eq_2 ..) (Ev.AI rfl (Ev.same ?_)))
       have:=VG (x:=m) (n:=53) (by omega);rw[odd (by omega)]
     · refine Ev.AO h4 (Ev.step (λk=>Bl.j2.eq_2 ..) ?_)
       by_cases h5:e < -1074
       · refine Ev.AI (decide_eq_true h5) (Ev.same ?_)
         rw[odd (by omega)]
       · refine Ev.AO (by rw[decide_eq_false h5];decide) ?_
         exact iL neg (e+1074).toNat m e (AP1 _) h0 (by omega) (by omega) (by omega)
theorem nD {m e:Int} (neg:Bool) (hm:U m):Ev (λk=>Bl.f k neg m e) (Mk neg m e):=by
 obtain⟨hm0,hm1⟩:=id hm;have hu:un m e=max (bl m+e-53) (-1074):=rfl;by_cases hz:m=0
 · refine Ev.AI hz (Ev.AZ (GJ neg (by omega) (by omega)) (Ev.same ?_))
   rw[hz,Wc]
 · have hp:0<m:=by omega
   have b1:=Ds hp;have b2:=RY hm1;refine Ev.AO hz ?_;by_cases h1:e < -1200
   · refine Ev.AI h1 (Ev.step (λk=>Bl.j0.eq_2 ..) (Ev.AI rfl (Ev.same ?_)))
     rw[Qj neg hz (.inr (wK hp hm1 (by omega)))]
   · refine Ev.AO h1 (Ev.step (λk=>Bl.j0.eq_2 ..) ?_)
     by_cases h2:e>1200
     · refine Ev.AI (decide_eq_true h2) (Ev.same ?_)
       rw[Qj neg hz (.inl (by omega))]
     · refine Ev.AO (by rw[decide_eq_false h2];decide) ?_
       exact iM neg m.toNat m e (AP1 _) hp hm1 (by omega) (by omega)
theorem Nz {w u:Int} (neg:Bool) (h0:0<=w) (h1:w<=9007199254740992) (hu0 : -1074<=u) (r8:u<=971) (hw:u= -1074\/4503599627370496<=w) :
 Ev (λk=>Cg.f k neg w u) (KG neg ((u+1074)*4503599627370496+w)):=by
 refine Ev.bind (Jc neg (m:=w) (e:=u) (by unfold U;omega) (by omega) (by omega)) ?_;have hk:=zE (neg:=neg) h0 h1 hu0 r8 hw;by_cases h:(Mk neg w u).2=true
 · rw[if_pos h] at hk
   exact Ev.AI h (Ev.same (congrArg some hk))
 · rw[if_neg h] at hk
   exact Ev.AO h (Ev.AZ (GU neg) (Ev.same (congrArg some hk)))
theorem Ey (neg:Bool):Ev (λk=>Cg.f k neg 0 0) (KG neg 0):=by
 refine Ev.bind (Jc neg (m:=0) (e:=0) (by unfold U;omega) (by omega) (by omega)) ?_;rw[Wc];exact Ev.AI rfl (Ev.same rfl)
theorem UE {x:Int} (h0:0<=x) (h1:x<9223372036854775808) (half more:Bool):Eo.f x half more=some (if half=true/\(more=true\/x%2=1) then x+1 else x):=by
 unfold Eo.f;rw[AJH x h0 (by omega),DY (by omega) (by omega)];cases half
 · simp
 · cases more
   · simp only[ARg,if_true,if_false,false_or,true_and]
     split<;>rfl
   · simp
def ce (e:Int):Int:=mn (mx e (-1099511627776)) 1099511627776
theorem Wh (e:Int) : -1099511627776<=ce e/\ce e<=1099511627776:=by
 unfold ce mn mx;split<;>split<;>omega
theorem M7 {e:Int} (h0 : -1099511627776<=e) (h1:e<=1099511627776):ce e=e:=by
 unfold ce mn mx;split<;>split<;>omega
theorem sB {m e:Int} (hm:bl m<=1000000) (he : -1099511627776<=e) (he':e<=1099511627776):mx (wrap64 ((wrap64 (bl m+e))-53)) (-1074)=un m e:=by
 have h2:=CM m;rw[AE (n:=bl m+e) (by omega) (by omega),AE (by omega) (by omega)];unfold mx un;generalize bl m=n at *;split<;>omega
theorem AAo {G H r:Int} (hG:0<G) (hGH:G*H=9223372036854775808) (h0:0<=r) (h1:r<2*H) :
 (G*r/9223372036854775808==1)=decide (r>=H)/\(r>H->(G*r*2%18446744073709551616 !=0)=true)/\(r=H->(G*r*2%18446744073709551616 !=0)=false):=by
 have e1:G*(2*H)=18446744073709551616:=by rw[Int.mul_left_comm,hGH];rfl
 have b0:0<=G*r:=AP7 (by omega) h0;have b1:G*r<18446744073709551616:=by rw[<-e1];exact ARR h1 hG
 rcases AR1 r H with h | h | h
 · have:G*r<9223372036854775808:=by rw[<-hGH];exact ARR h hG
   refine⟨?_,λk=>by omega,λk=>by omega⟩;rw[decide_eq_false (by omega),beq_eq_false_iff_ne];omega
 · subst h
   refine⟨?_,λk=>by omega,λ_=> ?_⟩
   · rw[decide_eq_true (by omega),beq_iff_eq]
     omega
   · rw[bne_eq_false_iff_eq]
     omega
 · have:9223372036854775808<G*r:=by rw[<-hGH];exact ARR h hG
   refine⟨?_,λ_=> ?_,λk=>by omega⟩
   · rw[decide_eq_true (by omega),beq_iff_eq]
     omega
   · rw[bne_iff_ne]
     omega
theorem wL {m e:Int} (h:0<m) (hu:un m e<=971):Rd m e=(un m e+1074)*4503599627370496+ru m e (un m e):=by
 unfold Rd;rw[if_neg (by omega),if_neg (by omega)]
theorem nE {m e:Int} (h:0<m) (hu:un m e>971):Rd m e=Xz:=by
 unfold Rd;rw[if_neg (by omega),if_pos hu]
theorem CR {m e:Int} (neg:Bool) (hm:U m):Ev (λk=>Aw.f k neg m e) (KG neg (Rd m (ce e))):=by
 obtain⟨hm0,hm1⟩:=id hm;have hE:=Wh e;by_cases hz:m=0
 · refine Ev.AI hz (Ev.bind (Ey neg) (Ev.same ?_))
   rw[hz,nF]
 · have hp:0<m:=by omega
   have b1:=Ds hp;have b2:=RY hm1;refine Ev.AO hz (Ev.bind (Fp hm) ?_);have eE:mn (mx e (-1099511627776)) 1099511627776=ce e:=rfl;rw[eE];generalize ce e=E at *;rw[sB (by omega) (by omega) (by omega)];have hu:un m E=max (bl m+E-53) (-1074):=rfl;have hq:=AAn (e:=E) hp;have hr:=Wi (e:=E) hp;by_cases h1:un m E>971
   · refine Ev.AI h1 (Ev.AZ (GU neg) (Ev.same ?_))
     rw[nE hp h1]
   · refine Ev.AO h1 ?_
     rw[AE (n:=un m E-E) (by omega) (by omega),wL hp (by omega)];by_cases h2:un m E-E<=0
     · refine Ev.AI h2 ?_
       rw[AE (by omega) (by omega)];refine Ev.AI (by omega) ?_;by_cases ht : -(un m E-E)<=64
       · have e0:ru m E (un m E)=m*2^(E-un m E).toNat:=by
          unfold ru;rw[show(un m E-E).toNat=0 by omega,MH]
         rw[show(un m E-E).toNat=0 by omega,AQA,AQs] at hq;rw[e0] at hr ⊢;rw[Ld _ _ (by omega),show(-(un m E-E)).toNat=(E-un m E).toNat by omega,AQU hq.1 (by omega)];exact Ev.bind (Nz neg hr.1 hr.2.1 (by omega) (by omega) hr.2.2) (Ev.same rfl)
       · exfalso
         omega
     · refine Ev.AO h2 ?_
       by_cases h3:un m E-E>64
       · refine Ev.AI h3 (Ev.bind (Ey neg) (Ev.same ?_))
         have hu2:un m E= -1074:=(by omega);have e0:ru m E (un m E)=0:=by
          unfold ru;rw[show(E-un m E).toNat=0 by omega,AQA,AQQ];have:=A7 (a:=65) (b:=(un m E-E).toNat) (by omega);exact YJ hm0 (by omega)
         rw[e0,hu2];rfl
       · refine Ev.AO h3 ?_
         obtain⟨d,hd⟩ : ∃d:Nat,un m E-E=((d+1:Nat):Int):=⟨(un m E-E).toNat-1,by omega⟩;have AJI:d+1<=64:=(by omega);have e0:ru m E (un m E)=RA m (d+1):=by
          unfold ru;rw[show(E-un m E).toNat=0 by omega,AQA,AQQ,hd,APr]
         rw[show(E-un m E).toNat=0 by omega,AQA,AQQ,hd,APr] at hq;rw[e0] at hr ⊢;rw[hd,AE (by omega) (by omega),AE (n:=((d+1:Nat):Int)-1) (by omega) (by omega)];refine Ev.AI (by omega) (Ev.AI (by omega) ?_);have hH:(2:Int)^(d+1)=2*2^d:=(by rw[AQH,AP6]);have hGH:(2:Int)^(64-(d+1))*2^d=9223372036854775808:=(by rw[<-AQK,show 64-(d+1)+d=63 by omega];rfl);rw[Wd _ _ (by omega),Ld _ _ (by omega),show(((d+1:Nat):Int)-1).toNat=d by omega,show(64-((d+1:Nat):Int)).toNat=64-(d+1) by omega,nG m AJI,wu];have e1:m/2/2^d=m/2^(d+1):=(by rw[AQa (by omega),<-hH]);rw[e1];have r0:=AQJ m (show(2:Int)^(d+1)≠0 by have:=pow_pos (d+1);omega);have r1:=AQG m (pow_pos (d+1));have hw:=AAo (G:=2^(64-(d+1))) (H:=2^d) (r:=m%2^(d+1)) (pow_pos _) hGH r0 (by omega);rw[hw.1];have he:=UE (x:=m/2^(d+1)) hq.1 (by omega) (decide (m%2^(d+1)>=2^d)) (2^(64-(d+1))*(m%2^(d+1))*2%18446744073709551616 !=0);have hv:(if decide (m%2^(d+1)>=2^d)=true/\((2^(64-(d+1))*(m%2^(d+1))*2%18446744073709551616 !=0)=true\/m/2^(d+1)%2=1) then m/2^(d+1)+1 else m/2^(d+1))=RA m (d+1):=by
          unfold RA;rcases AR1 (m%2^(d+1)) (2^d) with h | h | h
          · rw[if_neg (by simp;omega),if_neg (by omega)]
          · rw[hw.2.2 h]
            by_cases ho:m/2^(d+1)%2=1
            · rw[if_pos ⟨decide_eq_true (by omega), .inr ho⟩,if_pos (.inr ⟨by omega,ho⟩)]
            · rw[if_neg (by simp[ho]),if_neg (by omega)]
          · rw[hw.2.1 h,if_pos ⟨decide_eq_true (by omega), .inl rfl⟩,if_pos (.inl (by omega))]
         rw[hv] at he;refine Ev.AZ he ?_;exact Ev.bind (Nz neg hr.1 hr.2.1 (by omega) (by omega) hr.2.2) (Ev.same rfl)
theorem KK {n:Int} (h0 : -9223372036854775808<=n) (h1:n<=9223372036854775807):Ev (λk=>Cr.f k n) (KG (decide (n<0)) (Rd (if n<0 then -n else n) 0)):=by
 by_cases h:n<0
 · rw[decide_eq_true h,if_pos h]
   refine Ev.AI h ?_;have e:IntKind.u64.wrap (-(IntKind.u64.wrap n))= -n:=(by rw[wu,wu];omega);rw[e];refine Ev.bind (CR (e:=0) true (by unfold U;omega)) (Ev.same ?_);rw[M7 (by omega) (by omega)]
 · rw[decide_eq_false h,if_neg h]
   refine Ev.AO h ?_;rw[DY (by omega) (by omega)];refine Ev.bind (CR (e:=0) false (by unfold U;omega)) (Ev.same ?_);rw[M7 (by omega) (by omega)]
def qv (N D:Int):Int:=if N%D=0 then 2*(N/D) else 2*(N/D)+1
theorem zF (N D:Int):2*(N/D)<=qv N D/\qv N D<=2*(N/D)+1:=by unfold qv;split<;>omega
theorem AFL {N D c:Int} (hD:0<D) (hq:9007199254740992<=N/D):Rd (qv N D) c=Rd (qv (N*2) D) (c-1):=by
 have hs:0<qv N D:=by have:=zF N D;omega
 rw[<-Im hs c 1,ARX,show c-((1:Nat):Int)=c-1 from rfl];have d1:=AP9 N D;have d2:=AQJ N (show D≠0 by omega);have d3:=AQG N hD;have key:N*2/D=2*(N/D)+(N%D*2)/D/\(N*2)%D=(N%D*2)%D:=by
  have e:N*2=N%D*2+D*(2*(N/D)):=by
   have:D*(2*(N/D))=2*(D*(N/D)):=(by rw[<-AQT,AP6 D 2,AQT]);omega
  constructor
  · rw[e,AQj _ _ (by omega)];omega
  · rw[e,AQt]
 have r1:(N%D*2)/D=0/\(N%D*2)%D=N%D*2\/(N%D*2)/D=1/\(N%D*2)%D=N%D*2-D/\N%D≠0:=by
  rcases AQf (N%D*2) D with h | h
  · exact .inl ⟨AQV (by omega) h,AQU (by omega) h⟩
  · have e2:N%D*2=(N%D*2-D)+D*1:=by omega
    refine .inr ⟨?_, ?_,by omega⟩
    · rw[e2,AQj _ _ (by omega),AQV (by omega) (by omega)];rfl
    · rw[e2,AQt,AQU (by omega) (by omega)];omega
 have hX:18014398509481984<=qv N D:=by have:=zF N D;omega
 have hY:0<qv (N*2) D:=by have:=zF (N*2) D;rw[key.1] at this;rcases r1 with h | h<;>omega
 have c1:qv N D*2/2^2=qv (N*2) D/2^2/\(qv N D*2%2^2=0↔qv (N*2) D%2^2=0):=by
  unfold qv;rw[key.1,key.2];rw[show((2:Int)^2)=4 from rfl];generalize N/D=q at *;generalize N%D=r at *;by_cases hr:r=0
  · subst hr
    rcases r1 with⟨k1,k2⟩ | ⟨k1,k2,k3⟩
    · rw[k1,k2,if_pos rfl,if_pos (by omega)];omega
    · exact absurd rfl k3
  · rw[if_neg hr]
    rcases r1 with⟨k1,k2⟩ | ⟨k1,k2,k3⟩
    · rw[k1,k2,if_neg (by omega)];omega
    · rw[k1,k2];split<;>omega
 refine Pb (g:=2) (by omega) hY c1.1 c1.2 ?_;have:=VG (x:=qv N D*2) (n:=55) (by omega);unfold un;omega
theorem ACo (j:Nat) : ∀ {N D c:Int},0<D->9007199254740992<=N/D->Rd (qv N D) c=Rd (qv (N*2^j) D) (c-j):=by
 induction j with
 | zero=>intro N D c hD hq;rw[AQA,AQQ,show c-((0:Nat):Int)=c by omega]
 | succ j ih =>
   intro N D c hD hq;have e:N*2^(j+1)=N*2*2^j:=(by rw[AQH,AP6 (2^j),AQT]);have d1:=AP9 N D;have d2:=AQJ N (show D≠0 by omega);have h2:9007199254740992<=N*2/D:=by
    have h3:N/D*D<=N:=(by rw[AP6];omega);have h4:N/D<=N*2/D:=(AQm hD).2 (by
     have:0<=N/D*D:=AP7 (by omega) (by omega);omega)
    omega
   rw[e,AFL hD hq,ih hD h2]
   congr 1
   omega
def fq (N D:Int):Int :=
 if bl N-bl D < -1200 then 0 else if bl N-bl D>1100 then Xz
 else Rd (qv (N*2^(max 0 (64-(bl N-bl D))).toNat) D) (-(max 0 (64-(bl N-bl D)))-1)
theorem ACp {N:Int} (h:0<N) : ∃n:Nat,bl N=n+1/\2^n<=N/\N<2^(n+1):=by
 have h1:=Ds h;refine⟨(bl N-1).toNat,by omega, ?_, ?_⟩
 · exact Wj h
 · have:=HN N
   have e:((bl N-1).toNat+1)=(bl N).toNat:=by omega
   rw[e];exact this
theorem dz {N D:Int} {up g:Nat} (hN:0<N) (hD:0<D) (h:bl D+g+1<=bl N+up):2^g<=N*2^up/D:=by
 obtain⟨n,n1,n2,n3⟩:=ACp hN;obtain⟨d,d1,d2,d3⟩:=ACp hD;refine(AQm hD).2 ?_;have k1:(2:Int)^g*D<=2^g*2^(d+1):=AQD (by omega) (by have:=pow_pos g;omega);have k2:(2:Int)^n*2^up<=N*2^up:=AP2 n2 (by have:=pow_pos up;omega);rw[<-AQK] at k1 k2;have k3:=A7 (a:=g+(d+1)) (b:=n+up) (by omega);omega
theorem AHp {N D:Int} (hN:0<N) (hD:0<D) (h0 : -1200<=bl N-bl D) (h1:bl N-bl D<=1200) :
 fq N D=Rd (qv (N*2^(max (70-(bl N-bl D)) 0).toNat) D) (-(max (70-(bl N-bl D)) 0)-1):=by
 unfold fq;rw[if_neg (by omega)];by_cases h:bl N-bl D>1100
 · rw[if_pos h,show max (70-(bl N-bl D)) 0=0 by omega,show(0:Int).toNat=0 from rfl,AQA,AQQ]
   have q:=dz (up:=0) (g:=1099) hN hD (by omega);rw[AQA,AQQ] at q;have k:=(zF N D).1;have k2:(2:Int)^1099<=qv N D:=(by have:=pow_pos 1099;omega);have hb:=VG k2;have hp:0<qv N D:=(by have:=pow_pos 1099;omega);unfold Rd;rw[if_neg (by omega),if_pos (by unfold un;omega)]
 · rw[if_neg h]
   have q:=dz (up:=(max 0 (64-(bl N-bl D))).toNat) (g:=53) hN hD (by omega);generalize hu:(max 0 (64-(bl N-bl D))).toNat=up at *;rw[ACo ((max (70-(bl N-bl D)) 0).toNat-up) hD q,AQT,<-AQK,show up+((max (70-(bl N-bl D)) 0).toNat-up)=(max (70-(bl N-bl D)) 0).toNat by omega]
   congr 1
   omega
theorem AHq {x:Int} (h:0<x) (i:Nat):x%2^i=0↔(i:Int)<=tz x:=by
 obtain⟨n,h1,h2,h3⟩:=Wk h;have key : ∀j:Nat,j<=n->x%2^j=0:=by
  intro j;induction j with
  | zero=>intro _;rw[AQA,ARV]
  | succ j ih =>
    intro hj;rw[AQH,Gz x (pow_pos j),h3 j (by omega),ih (by omega)];simp
 rw[h1];constructor
 · intro k
   rcases AQS n i with hlt | hge
   · exfalso
     have e:(2:Int)^i=2^n*(2*2^(i-n-1)):=by
      rw[<-Int.pow_succ',<-AQK];congr 1;omega
     rw[e] at k;have h5:=Gz x (D:=2*2^(i-n-1)) (pow_pos n);rw[k,key n (AP1 _)] at h5;have h6:x/2^n%(2*2^(i-n-1))=0:=by
      have hp:=pow_pos n;have:(2:Int)^n*(x/2^n%(2*2^(i-n-1)))=0:=(by omega);rcases ASn.1 this with h7 | h7<;>omega
     have h7:=Int.emod_emod_of_dvd (x/2^n) (show(2:Int)∣2*2^(i-n-1) from⟨_,rfl⟩);rw[h6] at h7;omega
   · omega
 · intro k
   exact key i (by omega)
theorem AJJ {N e:Int} (hN:0<=N) (hb:bl N<=10000) (h0 : -1099511627777<=e) (h1:e<=1099511627776):Rd N (ce e)=Rd N e:=by
 have hE:=Wh e;rcases(show -1099511627776<=e\/e= -1099511627777 by omega) with h | h
 · rw[M7 h h1]
 · have:ce e= -1099511627776:=by rw[h];decide
   rw[nH hN (by omega),nH hN (by omega)]
theorem Y4 {l:List Int} (neg:Bool) (hl:Wl l) (hn:l.length<=150) {e:Int} (he0 : -1099511627777<=e) (he1:e<=1099511627776):Ev (λk=>Dt.j0 k neg l e) (KG neg (Rd (nv l) e)):=by
 have h0:=AN hl.1;have hb:=E9 hl.1;refine Ev.step (λk=>Dt.j0.eq_2 ..) (Ev.bind (E8 hl) ?_);have hbN:bl (nv l)<=10000:=by omega
 have hb0:=CM (nv l);by_cases h1:bl (nv l)<=64
 · refine Ev.AI h1 (Ev.bind (VI hl) ?_)
   have hw:nv l<18446744073709551616:=by
    have h2:=HN (nv l);have h3:=A7 (a:=(bl (nv l)).toNat) (b:=64) (by omega);have h4:(2:Int)^64=18446744073709551616:=rfl;omega
   rw[if_pos hw];refine Ev.bind (CR neg (m:=nv l) (e:=e) ⟨h0,hw⟩) (Ev.same ?_);rw[AJJ h0 hbN he0 he1]
 · refine Ev.AO h1 ?_
   have S:=kC hl (n:=un (nv l) e-e) (by unfold un;omega);have B:=YK hl (i:=un (nv l) e-e-1) (by unfold un;omega);have T:=wM hl;generalize nv l=N at *;have hp:0<N:=by
    rcases(show N=0\/0<N by omega) with h | h
    · rw[h,Lo] at h1;omega
    · exact h
   have hu:un N e=max (bl N+e-53) (-1074):=rfl;have eU:mx (wrap64 ((wrap64 (bl N+e))-53)) (-1074)=un N e:=by
    rw[AE (n:=bl N+e) (by omega) (by omega),AE (n:=bl N+e-53) (by omega) (by omega),hu];unfold mx;split<;>omega
   rw[eU];by_cases h2:un N e>971
   · refine Ev.AI h2 (Ev.AZ (GU neg) (Ev.same ?_))
     rw[nE hp h2]
   · refine Ev.AO h2 ?_
     rw[AE (n:=un N e-e) (by omega) (by omega),AE (n:=un N e-e-1) (by omega) (by omega)];have hq:=AAn (e:=e) hp;have hr:=Wi (e:=e) hp;obtain⟨d,hd⟩ : ∃d:Nat,un N e-e=d+1:=⟨(un N e-e-1).toNat,by omega⟩;unfold ru at hr;rw[wL hp (by omega)];unfold ru;rw[show(e-un N e).toNat=0 by omega,AQA,AQQ,show(un N e-e).toNat=d+1 by omega] at hq hr ⊢;have d1:un N e-e-1=(d:Int):=(by omega);have d2:un N e-e=((d+1:Nat):Int):=(by omega);rw[d1] at B ⊢;rw[d2] at S ⊢;rw[APr] at S;refine Ev.bind S ?_;have bq:bl (N/2^(d+1))<=53:=CA (n:=53) (Int.lt_of_lt_of_le hq.2.1 (by decide));have W:=VI (l:=dg (N/2^(d+1))) (BO (by omega));rw[AY hq.1,if_pos (by omega)] at W;refine Ev.bind W (Ev.AZ B (Ev.bind T ?_));refine Ev.AZ (UE hq.1 (by omega) _ _) ?_;have hpd:=pow_pos d;have hm:=Gz N (G:=2^d) (D:=2) hpd;have e2:(2:Int)^(d+1)=2^d*2:=AQH ..;have hz:N%2^d=0↔(d:Int)<=tz N:=AHq hp d;have hlt:=AQG N hpd;have hge:=AQJ N (show(2:Int)^d≠0 by omega);have key:RA N (d+1)=if YL N (d:Int)=true/\(decide (tz N<(d:Int))=true\/N/2^(d+1)%2=1) then N/2^(d+1)+1 else N/2^(d+1):=by
      unfold RA YL;rw[APr];rw[e2] at *;rw[hm];have YM:N/2^d%2=0\/N/2^d%2=1:=(by omega);generalize N/(2^d*2)=q at *;generalize N%2^d=r at *;generalize tz N=t at *;generalize (2:Int)^d=G at *;rcases YM with YM | YM
      · rw[YM,if_neg (by omega),if_neg (by simp)]
      · rw[YM]
        by_cases WN:r=0
        · have:=hz.1 WN
          by_cases ho:q%2=1
          · rw[if_pos (by right;omega),if_pos (by simp[ho])]
          · rw[if_neg (by omega),if_neg (by simp[ho];omega)]
        · have : ¬(d:Int)<=t:=λk=>WN (hz.2 k)
          rw[if_pos (by left;omega),if_pos (by simp;omega)]
     rw[<-key];exact Ev.bind (Nz neg hr.1 hr.2.1 (zG N e) (by omega) hr.2.2) (Ev.same rfl)
theorem sC {l:List Int} (neg:Bool) (hl:Wl l) (hn:l.length<=100) (e:Int) (more:Bool):Ev (λk=>Dt.f k neg l e more) (KG neg (if more then Rd (2*nv l+1) (ce e-1) else Rd (nv l) (ce e))):=by
 have hE:=Wh e;have eE:mn (mx e (-1099511627776)) 1099511627776=ce e:=rfl;cases more
 · refine Ev.AO (by decide) ?_
   rw[eE];exact Ev.dc (Y4 neg hl (by omega) (by omega) (by omega)) rfl
 · refine Ev.AI rfl ?_
   rw[eE];have h0:=AN hl.1;have hb:=E9 hl.1;have S:=TO hl (by omega) 1;rw[VJ (by omega) (by omega),show(1:Int).toNat=1 from rfl,ARX] at S;refine Ev.bind S ?_;generalize nv l=N at *;have b1:bl (N*2)<=6402:=by
    have:=Fo (x:=N) (y:=2) h0 (by omega);have:bl 2=2:=rfl;omega
   have lN:=AQ (N*2);refine Ev.bind (OU (x:=1) (by unfold U;omega)) ?_;have A:=YN (a:=dg (N*2)) (b:=dg 1) (BO (by omega)) (BO (by decide)) (by omega) (by decide);rw[AY (by omega),AY (by omega),show N*2+1=2*N+1 by omega] at A;refine Ev.bind A ?_;have b2:bl (2*N+1)<=6500:=by
    have a1:=HN (N*2);have a2:=CM (N*2);have:bl (2*N+1)<=((bl (N*2)).toNat+1:Nat):=CA (by rw[AQH];omega);omega
   have l2:=AQ (2*N+1);have J:=Y4 neg (l:=dg (2*N+1)) (BO (by omega)) (by omega) (e:=ce e-1) (by omega) (by omega);rw[AY (by omega)] at J;exact Ev.dc J rfl
theorem TP {n:Int} (h:n<=65536):sD n=n.toNat:=by
 rcases AQf n 0 with h0 | h0
 · unfold sD mn mx
   split<;>split<;>omega
 · exact VJ h0 h
theorem Y5 {w u:Int} (neg:Bool) (h0:0<=w) (h1:w<=9007199254740992) (hu0 : -1074<=u) (r8:u<=971) (hw:u= -1074\/4503599627370496<=w) :
 Ev (λk=>F7.j1 k neg u w) (KG neg ((u+1074)*4503599627370496+w)):=by
 refine Ev.step (λk=>F7.j1.eq_2 ..) ?_;refine Ev.bind (nD neg (m:=w) (e:=u) (by unfold U;omega)) ?_;have hk:=zE (neg:=neg) h0 h1 hu0 r8 hw;by_cases h:(Mk neg w u).2=true
 · rw[if_pos h] at hk
   exact Ev.AI h (Ev.same (congrArg some hk))
 · rw[if_neg h] at hk
   exact Ev.AO h (Ev.AZ (Rc neg) (Ev.same (congrArg some hk)))
theorem wO {w:Int} (h0:0<w) (h1:w<18446744073709551616):dg w= [w]:=by
 rw[MI h0,eA (by omega),AQU (by omega) h1]
theorem Ky {w u:Int} (neg:Bool) (h0:0<=w) (h1:w<=9007199254740992) (hu0 : -1074<=u) (r8:u<=971) (hw:u= -1074\/4503599627370496<=w) :
 Ev (λk=>F7.j0 k neg u (dg w)) (KG neg ((u+1074)*4503599627370496+w)):=by
 refine Ev.step (λk=>F7.j0.eq_2 ..) ?_;rcases(show w=0\/0<w by omega) with rfl | h
 · rw[Gj]
   exact Ev.AO (by decide) (Y5 neg h0 h1 hu0 r8 hw)
 · rw[wO h (by omega)]
   exact Ev.AI (by simp) (Ev.AI (by simp) (Y5 neg h0 h1 hu0 r8 hw))
theorem kD {x y:Int} :Gk x y>0↔y<x:=by unfold Gk;split<;>(try split)<;>omega
theorem TQ {x y:Int} :Gk x y=0↔x=y:=by unfold Gk;split<;>(try split)<;>omega
theorem eB {l:List Int} (neg:Bool) (hl:Wl l) (hn:l.length<=900) {e:Int} (he0 : -2000000000000<=e) (he1:e<=2000000000000):Ev (λk=>F7.f k neg l e) (KG neg (Rd (nv l) e)):=by
 have h0:=AN hl.1;have hb:=E9 hl.1;refine Ev.bind (Bu hl) ?_;generalize nv l=N at *;have hb0:=CM N;have hbN:bl N<=57600:=by omega
 clear hb;have wN:Wl (dg N):=BO (by omega);have lN:=AQ N;by_cases hz:N=0
 · rw[hz]
   refine Ev.AI rfl (Ev.AZ (GJ neg (by omega) (by omega)) (Ev.same ?_));rw[nF]
 · have hp:0<N:=by omega
   have b1:=Ds hp;refine Ev.AO (λk=>hz ((Cq h0).1 (by omega))) ?_;have BN:=Lp wN;rw[AY h0] at BN;refine Ev.bind BN ?_;have hu:un N e=max (bl N+e-53) (-1074):=rfl;by_cases h1:e>2000
   · refine Ev.AI h1 (Ev.AZ (Rc neg) (Ev.same ?_))
     rw[AHr hp (by omega)]
   · refine Ev.AO h1 ?_
     rw[AE (n:= -1200-bl N) (by omega) (by omega)];by_cases h2:e < -1200-bl N
     · refine Ev.AI h2 (Ev.AZ (GJ neg (by omega) (by omega)) (Ev.same ?_))
       rw[nH h0 (by omega)]
     · refine Ev.AO h2 ?_
       rw[sB (by omega) (by omega) (by omega)];by_cases h3:un N e>971
       · refine Ev.AI h3 (Ev.AZ (Rc neg) (Ev.same ?_))
         rw[nE hp h3]
       · refine Ev.AO h3 ?_
         have hr:=Wi (e:=e) hp;have hq:=AAn (e:=e) hp;have r8:=zG N e;rw[wL hp (by omega)];have S1:=GX wN (by omega) (e-un N e);rw[AY h0,TP (by omega)] at S1;rw[AE (n:=e-un N e) (by omega) (by omega)];refine Ev.bind S1 ?_;by_cases h4:e<un N e
         · refine Ev.AI h4 ?_
           rw[AE (n:=un N e-e) (by omega) (by omega)];obtain⟨d,hd⟩ : ∃d:Nat,un N e-e=d:=⟨(un N e-e).toNat,by omega⟩;have hdd:d<=58000:=(by omega);have e0:ru N e (un N e)=RA N d:=by
            unfold ru;rw[show(e-un N e).toNat=0 by omega,AQA,AQQ,hd,APr]
           rw[show(e-un N e).toNat=0 by omega,AQA,AQQ,hd,APr] at hq;rw[e0] at hr ⊢;rw[hd];have R1:=Kz wN (n:=(d:Int)) (by omega);rw[AY h0,APr] at R1;refine Ev.bind R1 ?_;have hdm:=AP9 N (2^d);have hm0:=AQJ N (show(2:Int)^d≠0 by have:=pow_pos d;omega);have hm1:=AQG N (pow_pos d);have hle:N/2^d<=N:=AQv _ h0;have bq:=B9 hle;have wq:Wl (dg (N/2^d)):=BO (by omega);have lq:=AQ (N/2^d);have S2:=GX wq (by omega) (d:Int);rw[AY hq.1,TP (by omega),APr] at S2;refine Ev.bind S2 ?_;rw[AP6] at hdm;have G9:0<=N/2^d*2^d:=AP7 hq.1 (by have:=pow_pos d;omega);have bp:=B9 (show N/2^d*2^d<=N by omega);have lp:=AQ (N/2^d*2^d);have D:=Rh wN (b:=dg (N/2^d*2^d)) (BO (by omega)) (by omega) (by omega) (by rw[AY h0,AY G9];omega);rw[AY h0,AY G9,show N-N/2^d*2^d=N%2^d by omega] at D;refine Ev.bind D ?_;have br:=B9 (show N%2^d<=N by omega);have wr:Wl (dg (N%2^d)):=BO (by omega);have lr:=AQ (N%2^d);have S3:=GX wr (by omega) 1;rw[AY hm0,TP (by omega),show(1:Int).toNat=1 from rfl,ARX] at S3;refine Ev.bind S3 ?_;have w1:Wl [1]:=⟨JB (by unfold U;omega),by decide⟩;have S4:=GX w1 (by decide) (d:Int);rw[Jd,TP (by omega),APr,ARL] at S4;refine Ev.bind S4 ?_;have bd:bl ((2:Int)^d)<=d+1:=CA (n:=d+1) (by rw[AQH];have:=pow_pos d;omega);have br2:=B9 (show N%2^d*2<=2^(d+1) by rw[AQH];omega);have bd2:bl ((2:Int)^(d+1))<=d+2:=CA (n:=d+2) (by rw[AQH,AQH];have:=pow_pos d;omega);have C:=JO (a:=dg (N%2^d*2)) (b:=dg (2^d)) (BO (by omega)) (BO (by omega));rw[AY (by omega),AY (by have:=pow_pos d;omega)] at C;refine Ev.bind C ?_;have A:=Y6 wq w1 (by omega) (by decide);rw[AY hq.1,Jd] at A;clear S1 R1 S2 S3 S4 D C BN;by_cases h5:Gk (N%2^d*2) (2^d)>0
           · refine Ev.AI h5 (Ev.bind A ?_)
             have e1:RA N d=N/2^d+1:=by
              unfold RA;rw[if_pos (.inl (by have:=kD.1 h5;omega))]
             rw[e1] at hr ⊢;exact Ky neg (by omega) hr.2.1 r8 (by omega) hr.2.2
           · refine Ev.AO h5 ?_
             by_cases h6:Gk (N%2^d*2) (2^d)=0
             · refine Ev.AI h6 (Ev.AZ (M8 wq (by omega)) ?_)
               rw[AY hq.1];have h7:=TQ.1 h6;by_cases h8:N/2^d%2=1
               · refine Ev.AI (by unfold YL;simp[h8]) (Ev.bind A ?_)
                 have e1:RA N d=N/2^d+1:=by
                  unfold RA;rw[if_pos (.inr ⟨by omega,h8⟩)]
                 rw[e1] at hr ⊢;exact Ky neg (by omega) hr.2.1 r8 (by omega) hr.2.2
               · refine Ev.AO (by unfold YL;simp[h8]) ?_
                 have e1:RA N d=N/2^d:=by
                  unfold RA;rw[if_neg (by omega)]
                 rw[e1] at hr ⊢;exact Ky neg (by omega) hr.2.1 r8 (by omega) hr.2.2
             · refine Ev.AO h6 ?_
               have e1:RA N d=N/2^d:=by
                unfold RA;rw[if_neg ?_];intro k;rcases k with k | k
                · exact h5 (kD.2 (by omega))
                · exact h6 (TQ.2 (by omega))
               rw[e1] at hr ⊢;exact Ky neg (by omega) hr.2.1 r8 (by omega) hr.2.2
         · refine Ev.AO h4 ?_
           have e0:ru N e (un N e)=N*2^(e-un N e).toNat:=by
            unfold ru;rw[show(un N e-e).toNat=0 by omega,MH]
           rw[e0] at hr ⊢;exact Ky neg hr.1 hr.2.1 r8 (by omega) hr.2.2
theorem nI {l:List Int} (hl:Wl l) (hn:l.length<=900):Ev (λk=>kE.f k l) (dg (2*nv l+1)):=by
 have h0:=AN hl.1;have hb:=E9 hl.1;have S:=GX hl (by omega) 1;rw[TP (by omega),show(1:Int).toNat=1 from rfl,ARX] at S;refine Ev.bind S ?_;generalize nv l=N at *;have b1:bl (N*2)<=58000:=by
  have:=Fo (x:=N) (y:=2) h0 (by omega);have:bl 2=2:=rfl;omega
 have lN:=AQ (N*2);have A:=Y6 (a:=dg (N*2)) (b:= [1]) (BO (by omega)) ⟨JB (by unfold U;omega),by decide⟩ (by omega) (by decide);rw[AY (by omega),Jd,show N*2+1=2*N+1 by omega] at A;exact Ev.bind A (Ev.same rfl)
theorem nJ {l:List Int} (neg:Bool) (hl:Wl l) (hn:l.length<=100) (e:Int) (more:Bool):Ev (λk=>kF.f k neg l e more) (KG neg (if more then Rd (2*nv l+1) (ce e-1) else Rd (nv l) (ce e))):=by
 have hE:=Wh e;have eE:mn (mx e (-1099511627776)) 1099511627776=ce e:=rfl;cases more
 · refine Ev.AO (by decide) ?_
   rw[eE];exact Ev.bind (eB neg hl (by omega) (by omega) (by omega)) (Ev.same rfl)
 · refine Ev.AI rfl (Ev.bind (nI hl (by omega)) ?_)
   rw[eE];have h0:=AN hl.1;have hb:=E9 hl.1;have b1:bl (2*nv l+1)<=6500:=by
    have a1:=HN (nv l);have b0:=CM (nv l);have:=CA (x:=2*nv l+1) (n:=(bl (nv l)).toNat+1) (by rw[AQH];omega);omega
   have lN:=AQ (2*nv l+1);have:=eB neg (l:=dg (2*nv l+1)) (BO (by omega)) (by omega) (e:=ce e-1) (by omega) (by omega);rw[AY (by omega)] at this;exact Ev.bind this (Ev.same rfl)
def sv (X r:Int):Int:=if r*r=X then 2*r else 2*r+1
theorem AFM {X r r' c:Int} (h:JC X r) (h':JC (X*4) r') (hr:9007199254740992<=r):Rd (sv X r) c=Rd (sv (X*4) r') (c-1):=by
 have hs:0<sv X r:=by unfold sv;split<;>omega
 rw[<-Im hs c 1,ARX,show c-((1:Nat):Int)=c-1 from rfl];obtain⟨h0,h1,h2⟩:=h;obtain⟨g0,g1,g2⟩:=h';have e1:(2*r)*(2*r)=r*r*4:=by grind
 have e2:(2*(r+1))*(2*(r+1))=(r+1)*(r+1)*4:=by grind
 have k1:2*r<=r':=by
  have:=FA (a:=2*r) (b:=r'+1) (by omega) (by omega);omega
 have k2:r'<2*(r+1):=FA (by omega) (by omega);by_cases hx:r*r=X
 · have:r'=2*r:=by
    have:=ACq (a:=r') (b:=2*r) (by omega) (by omega);omega
   unfold sv;rw[if_pos hx,if_pos (by rw[this];omega),this]
   congr 1
   omega
 · have hx':r'*r'≠X*4:=by
    intro he;rcases(show r'=2*r\/r'=2*r+1 by omega) with rfl | rfl
    · omega
    · have:(2*r+1)*(2*r+1)=r*r*4+4*r+1:=by grind
      omega
   unfold sv;rw[if_neg hx,if_neg hx'];refine Pb (g:=2) (by omega) (by omega) (by omega) (by omega) ?_;have:=VG (x:=(2*r+1)*2) (n:=55) (by omega);unfold un;omega
theorem ACr (j:Nat) : ∀ {X r r' c:Int},JC X r->JC (X*4^j) r'->9007199254740992<=r->Rd (sv X r) c=Rd (sv (X*4^j) r') (c-j):=by
 induction j with
 | zero =>
   intro X r r' c h h' hr;rw[AQA,AQQ] at h' ⊢;rw[sF h h',show c-((0:Nat):Int)=c by omega]
 | succ j ih =>
   intro X r r' c h h' hr;have e:X*4^(j+1)=X*4*4^j:=(by rw[AQH,AP6 (4^j),AQT]);rw[e] at h' ⊢;obtain⟨h0,h1,h2⟩:=h;have hX:0<=X:=by
    have:=AP7 h0 h0;omega
   obtain⟨s,hs⟩:=bP (A:=X*4) (by omega);have e1:(2*r)*(2*r)=r*r*4:=(by grind);have hs2:=hs.2.2;have:2*r<s+1:=FA (by have:=hs.1;omega) (by omega);rw[AFM ⟨h0,h1,h2⟩ hs hr,ih hs h' (by omega)]
   congr 1
   omega
def wP (m e w:Int):Prop:= ∃(up:Nat) (c r:Int),e-up=2*(c+1)/\JC (m*2^up) r/\9007199254740992<=r/\w=Rd (sv (m*2^up) r) c
theorem ACs (j:Nat):(4:Int)^j=2^(2*j):=by rw[Int.pow_mul];rfl
theorem zH {m e:Int} {up up':Nat} {c c' r r':Int} (hle:up<=up') (h1:e-up=2*(c+1)) (h2:JC (m*2^up) r) (h3:9007199254740992<=r) (k1:e-up'=2*(c'+1)) (k2:JC (m*2^up') r') :
 Rd (sv (m*2^up) r) c=Rd (sv (m*2^up') r') c':=by
 obtain⟨j,hj⟩ : ∃j,up'=up+2*j:=⟨(up'-up)/2,by omega⟩;subst hj;have e1:m*2^(up+2*j)=m*2^up*4^j:=by rw[AQK,ACs,AQT]
 rw[e1] at k2 ⊢;rw[ACr j h2 k2 h3]
 congr 1
 omega
theorem Y7 {m e w w':Int} (h:wP m e w) (h':wP m e w'):w=w':=by
 obtain⟨up,c,r,h1,h2,h3,rfl⟩:=h;obtain⟨up',c',r',k1,k2,k3,rfl⟩:=h';rcases ATH up up' with hle | hle
 · exact zH hle h1 h2 h3 k1 k2
 · exact(zH hle k1 k2 k3 h1 h2).symm
theorem AFN {m:Int} (h:0<m) (e:Int) : ∃w,wP m e w:=by
 obtain⟨up,hup,hp⟩ : ∃up:Nat,(e-up)%2=0/\106<=up:=by
  rcases(show e%2=0\/e%2=1 by omega) with h1 | h1
  · exact⟨106,by omega,by omega⟩
  · exact⟨107,by omega,by omega⟩
 have h2:(2:Int)^106<=m*2^up:=by
  have a1:=A7 hp;have:=AP2 (show 1<=m by omega) (APs (pow_pos up));omega
 obtain⟨r,hr⟩:=bP (A:=m*2^up) (by have:=pow_pos 106;omega);have h3:=hr.2.2;have:(9007199254740992:Int)<r+1:=FA (by have:=hr.1;omega) (by omega);exact⟨_,up,(e-up)/2-1,r,by omega,hr,by omega,rfl⟩
theorem AFO {X r c:Int} (h:JC X r) (hr:18014398509481984<=r):Rd (if r*r=X then r else r/2*2+1) c=Rd (sv X r) (c-1):=by
 have hs:0<(if r*r=X then r else r/2*2+1):=by split<;>omega
 rw[<-Im hs c 1,ARX,show c-((1:Nat):Int)=c-1 from rfl];unfold sv;by_cases hx:r*r=X
 · rw[if_pos hx,if_pos hx,AP6]
 · rw[if_neg hx,if_neg hx]
   refine Pb (g:=2) (by omega) (by omega) (by omega) (by omega) ?_;have:=VG (x:=(r/2*2+1)*2) (n:=55) (by omega);unfold un;omega
def near (b:Int):Int × Bool:=if fx b=2047\/bl (pm b)+pe b>62 then(0,false) else(if fs b then -(ru (pm b) (pe b) 0) else ru (pm b) (pe b) 0,true)
def VK (b k:Int):Int:=if fx b=2047 then cl b else KG (fs b) (Rd (pm b) (pe b+min (max k (-5000)) 5000))
theorem ACt {b:Int} (h:U b) (k:Int):U (VK b k):=by
 unfold VK cl;split
 · split
   · exact Y2
   · exact h
 · exact nA ..
def wQ (b:Int):Int:=if fs b then -(b-9223372036854775808) else b
def less (a b:Int):Bool:=decide (fk a≠4/\fk b≠4/\wQ a<wQ b)
def fint (n:Int):Int:=KG (decide (n<0)) (Rd (if n<0 then -n else n) 0)
theorem eC (n:Int):U (fint n):=nA ..
def V (b:Int):Int:=pm b*2^(pe b+1074).toNat
theorem AJK {b:Int} (h:fx b=0):V b=fr b:=by
 unfold V pm pe;rw[if_pos h,if_pos h];show fr b*2^0=_;rw[AQA,AQQ]
theorem AHs {b:Int} {n:Nat} (h:fx b=n+1):V b=(fr b+4503599627370496)*2^n:=by
 unfold V pm pe;rw[if_neg (by omega),if_neg (by omega),show(fx b-1075+1074).toNat=n by omega]
theorem nK {M l:Int} (h0:0<M) (h1:M<9007199254740992) (hl0 : -1074<=l) (hl1:l<=971):fx (Rd M l)≠2047/\fs (Rd M l)=false/\V (Rd M l)=M*2^(l+1074).toNat/\U (Rd M l):=by
 have b0:=Ds h0;have b1:bl M<=53:=CA (n:=53) h1;have hu:un M l=max (bl M+l-53) (-1074):=rfl;have q:=AAn (e:=l) h0;have hz:(un M l-l).toNat=0:=by omega
 have hR:Rd M l=(un M l+1074)*4503599627370496+M*2^(l-un M l).toNat:=by
  rw[Ra h0 (by omega) (by rw[hz,AQA,ARV]),hz,AQA,AQs]
 rw[hz,AQA,AQs] at q;rw[hR];have hV:M*2^(l+1074).toNat=M*2^(l-un M l).toNat*2^(un M l+1074).toNat:=by
  rw[AQT,<-AQK]
  congr 2
  omega
 rw[hV];have r8 : -1074<=un M l:=zG M l;have hu2:un M l<=971:=by omega
 generalize M*2^(l-un M l).toNat=w at *;generalize un M l=u at *;clear hR hV hz hu;obtain⟨w0,w1,w2⟩:=q;have hsp:=KH (x:=(u+1074)*4503599627370496+w) (by omega) (by omega) false;have es:KG false ((u+1074)*4503599627370496+w)=(u+1074)*4503599627370496+w:=rfl;rw[es] at hsp;obtain⟨s1,s2,s3,s4⟩:=hsp;generalize hb:(u+1074)*4503599627370496+w=b at *;refine⟨by omega,s2, ?_,s1⟩;rcases AQf w 4503599627370496 with h | h
 · obtain rfl:u= -1074:=by omega
   rw[AJK (by omega)];show fr b=w*2^0;rw[AQA,AQQ];omega
 · rw[AHs (n:=(u+1074).toNat) (by omega)]
   congr 1
   omega
theorem AFP {N D e:Int} (hq:0<N/D):(if decide (((dg (N%D)).length:Int)>0)=true then Rd (2*(N/D)+1) (e-1) else Rd (N/D) e)=Rd (qv N D) (e-1)\/N%D<0:=by
 rcases AQf (N%D) 0 with h | h
 · exact .inr h
 · left
   unfold qv;by_cases hz:N%D=0
   · rw[hz,Gj,if_neg (by decide),if_pos rfl,<-Im hq e 1,ARX,AP6]
     rfl
   · have:(dg (N%D)).length≠0:=λk=>hz ((Cq h).1 (by omega))
     rw[if_pos (decide_eq_true (by omega)),if_neg hz]
def fR (neg:Bool) (N D:Int):Int:=if N=0 then 0 else KG neg (fq N D)
theorem AAp {N D:Int} {up:Nat} (hN:0<N) (hD:0<D) {m:Int} (hm:bl N+up<=m):0<=N*2^up/D/\bl (N*2^up/D)<=m/\0<=N*2^up%D/\bl (N*2^up%D)<=m:=by
 have hp:=pow_pos up;have h0:0<N*2^up:=AQ0 hN hp;have hb:bl (N*2^up)=bl N+up:=eF hN up;have h1:N*2^up/D<=N*2^up:=AQv _ (by omega);have h3:=AP9 (N*2^up) D;have h4:=AP7 (show 0<=D by omega) (AQC (show 0<=N*2^up by omega) (show 0<=D by omega));have h2:N*2^up%D<=N*2^up:=by omega
 exact⟨AQC (by omega) (by omega),by have:=B9 h1;omega,AQJ _ (by omega),by have:=B9 h2;omega⟩
theorem OV {a b:List Int} (neg:Bool) (ha:Wl a) (hb:Wl b) (hla:a.length<=30) (hlb:b.length<=30) (hB:0<nv b):Ev (λk=>Bk.f k neg a b) (fR neg (nv a) (nv b)):=by
 have na:=AN ha.1;have ba:=E9 ha.1;have bb:=E9 hb.1;have pb:=Ds hB;have b0:=CM (nv a);refine Ev.bind (E8 ha) (Ev.bind (E8 hb) (Ev.bind (VF neg ha) ?_));have SG:=VF (b:=b) neg ha;rw[AE (n:=bl (nv a)-bl (nv b)) (by omega) (by omega)];unfold fR;by_cases hz:nv a=0
 · rw[if_pos hz]
   rw[if_pos hz] at SG ⊢;refine Ev.AI rfl (Ev.eqv (λk=>Bk.j0.eq_1 ..) (Ev.AI rfl ?_));cases neg
   · exact Ev.AO (by decide) (Ev.bind (Ey false) (Ev.same rfl))
   · exact Ev.AI rfl (Ev.bind SG (Ev.bind (Ey _) (Ev.same rfl)))
 · have hN:0<nv a:=by omega
   rw[if_neg hz] at SG ⊢;have hs:(if neg=true then(-1:Int) else 1)≠0:=(by cases neg<;>decide);rw[if_neg hz];refine Ev.AO hs (Ev.eqv (λk=>Bk.j0.eq_1 ..) ?_);by_cases h1:bl (nv a)-bl (nv b) < -1200
   · refine Ev.AI (decide_eq_true h1) ?_
     have e:fq (nv a) (nv b)=0:=(by unfold fq;rw[if_pos h1]);rw[e];cases neg
     · exact Ev.AO (by decide) (Ev.bind (Ey false) (Ev.same rfl))
     · exact Ev.AI rfl (Ev.bind SG (Ev.bind (Ey _) (Ev.same rfl)))
   · refine Ev.AO (by simp;omega) ?_
     by_cases h2:bl (nv a)-bl (nv b)>1200
     · refine Ev.AI h2 (Ev.AZ (GU neg) (Ev.same ?_))
       unfold fq;rw[if_neg (by omega),if_pos (by omega)]
     · refine Ev.AO h2 ?_
       rw[AHp hN hB (by omega) (by omega)];have eM:mx (wrap64 (70-(bl (nv a)-bl (nv b)))) 0=max (70-(bl (nv a)-bl (nv b))) 0:=by
        rw[AE (by omega) (by omega)];unfold mx;split<;>omega
       rw[eM];have S:=TO ha (by omega) (max (70-(bl (nv a)-bl (nv b))) 0);rw[VJ (by omega) (by omega)] at S;refine Ev.bind S ?_;obtain⟨up,hup⟩ : ∃up:Nat,max (70-(bl (nv a)-bl (nv b))) 0=(up:Int):=⟨(max (70-(bl (nv a)-bl (nv b))) 0).toNat,by omega⟩;have q:=dz (up:=up) (g:=1) hN hB (by omega);rw[hup,APr];have ds:=AAp (up:=up) hN hB (m:=4000) (by omega);have G9:0<nv a*2^up:=AQ0 hN (pow_pos up);have bs:bl (nv a*2^up)=bl (nv a)+up:=eF hN up;have ls:=AQ (nv a*2^up);have D:=Pg (a:=dg (nv a*2^up)) (b:=b) (BO (by omega)) hb (by omega);rw[if_neg (by omega),AY (by omega)] at D;refine Ev.bind D ?_;dsimp only;have lq:=AQ (nv a*2^up/nv b);have F:=sC neg (l:=dg (nv a*2^up/nv b)) (BO (by omega)) (by omega) (wrap64 (-(up:Int))) (decide (((dg (nv a*2^up%nv b)).length:Int)>0));rw[AY ds.1,AE (by omega) (by omega),M7 (by omega) (by omega)] at F;have k:=AFP (N:=nv a*2^up) (D:=nv b) (e:= -(up:Int)) (by omega);rw[k.resolve_right (by omega)] at F;rw[AE (by omega) (by omega)];exact Ev.bind F (Ev.same rfl)
theorem nL {x:Int} (h:U x):Go.bits .or .u64 x 1=x/2*2+1:=by
 obtain⟨h0,h1⟩:=h;have hj:Go.bits .or .u64 (x/2*2) 1=x/2*2+1:=F6 1 _ _ (by omega) (by omega) (by omega) (by omega) (by omega) (by omega);rcases(show x%2=0\/x%2=1 by omega) with h | h
 · rw[show x/2*2=x by omega] at hj ⊢
   exact hj
 · obtain⟨a,ha⟩:=AP0 (show 0<=x/2*2 by omega)
   rw[ha] at hj ⊢;have e1:=eG a 1 (by omega) (by decide);have e2:=eG (a ||| 1) 1 (by have:=Nat.or_lt_two_pow (n:=64) (x:=a) (y:=1) (by omega) (by decide);exact this) (by decide);rw[Nat.or_assoc,Nat.or_self] at e2;rw[show((1:Nat):Int)=1 from rfl] at e1 e2;rw[hj] at e1;rw[<-e1] at e2;rw[show x=(a:Int)+1 by omega];exact e2
theorem wR {m:Int} (h0:0<=m) (h1:m<9007199254740992) (s:Nat):K3.f m s=some (st m s):=by
 unfold K3.f;by_cases hs:(s:Int)>63
 · rw[if_pos hs]
   have:=A7 (a:=64) (b:=s) (by omega);unfold st mn;rw[AQU h0 (by omega),AQV h0 (by omega)];rcases(show m=0\/1<=m by omega) with h | h
   · rw[h];rfl
   · rw[if_neg (show¬m=0 by omega)]
     congr 1
     split<;>omega
 · rw[if_neg hs,if_pos (by omega),Wd _ _ (by omega),Ld _ _ (by omega),APr]
   have hp:=pow_pos s;have hd:=AP9 m (2^s);have hr:=AQJ m (show(2:Int)^s≠0 by omega);have hq:0<=m/2^s:=AQC h0 (by omega);have hqm:m/2^s<=m:=AQv _ h0;have hpq:0<=m/2^s*2^s:=AP7 hq (by omega);rw[AP6] at hd;rw[AQU hpq (by omega),nL (by unfold U;omega)];unfold st;by_cases h:m%2^s=0
   · rw[if_pos h,if_pos (by omega)]
   · rw[if_neg h,if_neg (by omega)]
theorem Ri {m e n f:Int} (a b:Bool) (hm0:0<=m) (hm:m<9007199254740992) (hn0:0<=n) (hn:n<9007199254740992) (hef:f<=e) (hf : -1074<=f) (he:e<=1000) (hw:e= -1074\/4503599627370496<=m) :
 Ev (λk=>DQ.j0 k a m e b n f) (if a=b then KG a (Rd (m*2^(e-f).toNat+n) f) else if m*2^(e-f).toNat=n then 0 else if m*2^(e-f).toNat>n then KG a (Rd (m*2^(e-f).toNat-n) f) else KG b (Rd (n-m*2^(e-f).toNat) f)):=by
 refine Ev.eqv (λk=>DQ.j0.eq_1 ..) ?_;have e1:mn (wrap64 (e-f)) 10=min (e-f) 10:=by
  rw[AE (by omega) (by omega)];unfold mn;split<;>omega
 obtain⟨up,hup⟩ : ∃up:Nat,(up:Int)=min (e-f) 10:=⟨(min (e-f) 10).toNat,by omega⟩;obtain⟨s,hs⟩ : ∃s:Nat,e-up-f=s:=⟨(e-up-f).toNat,by omega⟩;rw[e1,<-hup];have e2:wrap64 (e-(up:Int))=e-up:=AE (by omega) (by omega);have e3:wrap64 (e-(up:Int)-f)=s:=by rw[AE (by omega) (by omega)];exact hs
 rw[e2,e3];refine Ev.AI (by omega) (Ev.AZ (wR hn0 hn s) ?_);have hS:=AHm hm0 hm hn0 hn hef hf hw hup hs;have hX0:0<=m*2^up:=AP7 hm0 (by have:=pow_pos up;omega);have hX1:m*2^up<=9007199254740991*1024:=AST (by omega) (A7 (show up<=10 by omega)) (by have:=pow_pos up;omega) (by omega);have hY0:=j6 hn0 s;have hY1:st n s<=n+1:=by
  have:=AGH hn0 s;have:n/2^s<=n:=AQv _ hn0;omega
 rw[APr,DY hX0 (by omega),DY (n:=m*2^up+st n s) (by omega) (by omega)];obtain⟨s1,s2,s3,s4,s5⟩:=hS;generalize m*2^up=X at *;generalize st n s=Y at *;generalize m*2^(e-f).toNat=M at *;have hce:ce (e-(up:Int))=e-up:=M7 (by omega) (by omega);by_cases hab:a=b
 · rw[if_pos hab]
   refine Ev.AI (by rw[hab];simp) ?_;refine Ev.bind (CR (e:=e-(up:Int)) a (m:=X+Y) (by unfold U;omega)) (Ev.same ?_);rw[hce,s1]
 · rw[if_neg hab]
   refine Ev.AO (by simp[hab]) ?_;by_cases h1:X>Y
   · rw[if_neg (show¬M=n by omega),if_pos (s2.1 h1)]
     refine Ev.AI h1 ?_;rw[DY (by omega) (by omega)];refine Ev.bind (CR (e:=e-(up:Int)) a (m:=X-Y) (by unfold U;omega)) (Ev.same ?_);rw[hce,s4 h1]
   · refine Ev.AO h1 ?_
     by_cases h2:X<Y
     · rw[if_neg (show¬M=n by omega),if_neg (show¬M>n by omega)]
       refine Ev.AI h2 ?_;rw[DY (by omega) (by omega)];refine Ev.bind (CR (e:=e-(up:Int)) b (m:=Y-X) (by unfold U;omega)) (Ev.same ?_);rw[hce,s5 h2]
     · rw[if_pos (show M=n by omega)]
       exact Ev.AO h2 (Ev.same rfl)
theorem iN {a b:Int} (ha:fx a≠2047) (hb:fx b≠2047):Ev (λk=>DQ.f k (fs a) (pm a) (pe a) (fs b) (pm b) (pe b)) (fsF a b):=by
 have a1:=FB a;have a2:=Gw a;have b1:=FB b;have b2:=Gw b;by_cases h:pe a<pe b
 · refine Ev.AI h ((Ri (fs b) (fs a) b1.1 b1.2 a1.1 a1.2 (by omega) (by omega) (by omega) b2.2.2.2).dc ?_)
   rw[ACm];unfold fsF;rw[show min (pe b) (pe a)=pe a by omega,show(pe a-pe a).toNat=0 by omega,AQA,AQQ]
 · refine Ev.AO h ((Ri (fs a) (fs b) a1.1 a1.2 b1.1 b1.2 (by omega) (by omega) (by omega) a2.2.2.2).dc ?_)
   unfold fsF;rw[show min (pe a) (pe b)=pe b by omega,show(pe b-pe b).toNat=0 by omega,AQA,AQQ]
theorem kG {b:Int} (h:U b) (hx:fx b≠2047):Ev (λk=>M9.f k b) (fs b,pm b,pe b):=by
 have:=Ip h;rw[if_neg hx] at this;exact Ev.bind this (Ev.same rfl)
theorem Fq {a b:Int} (ha:U a) (hb:U b):Ev (λk=>BL.f k a b) (RX a b):=by
 refine Ev.AZ (CJ ha) (Ev.AZ (CJ hb) ?_);have nan : ∀t:Bool,t=true->(fk a=4\/fk b=4)->Ev (λk=>BL.j0 k a b (fk a) (fk b) t) (RX a b):=by
  intro t ht h;refine Ev.step (λk=>BL.j0.eq_2 ..) (Ev.AI ht (Ev.AZ En (Ev.same ?_)));unfold RX;rw[if_pos h]
 by_cases h1:fk a=4
 · exact Ev.AI h1 (nan _ rfl (.inl h1))
 · refine Ev.AO h1 ?_
   by_cases h2:fk b=4
   · exact nan _ (by rw[h2];rfl) (.inr h2)
   · refine Ev.step (λk=>BL.j0.eq_2 ..) (Ev.AO (by simp[h2]) ?_)
     have j1 : ∀t:Bool,(t=true↔(fk a=3/\fk b=3/\a≠b))->Ev (λk=>BL.j1 k a b (fk a) (fk b) t) (RX a b):=by
      intro t ht;refine Ev.step (λk=>BL.j1.eq_2 ..) ?_;unfold RX;rw[if_neg (show¬(fk a=4\/fk b=4) by omega)];by_cases h3:fk a=3/\fk b=3/\a≠b
      · rw[if_pos h3]
        exact Ev.AI (ht.2 h3) (Ev.AZ En (Ev.same rfl))
      · rw[if_neg h3]
        refine Ev.AO (λk=>h3 (ht.1 k)) ?_;by_cases h4:fk a=3
        · rw[if_pos h4]
          exact Ev.AI h4 (Ev.same rfl)
        · rw[if_neg h4]
          refine Ev.AO h4 ?_;by_cases h5:fk b=3
          · rw[if_pos h5]
            exact Ev.AI h5 (Ev.same rfl)
          · rw[if_neg h5]
            refine Ev.AO h5 (Ev.bind (kG ha (LS (λk=>h1 k) h4)) (Ev.bind (kG hb (LS h2 h5)) ?_));exact Ev.bind (iN (LS h1 h4) (LS h2 h5)) (Ev.same rfl)
     by_cases h3:fk a=3
     · refine Ev.AI h3 ?_
       by_cases h4:fk b=3
       · exact Ev.AI h4 (j1 _ (by simp[h3,h4]))
       · exact Ev.AO h4 (j1 _ (by simp[h4]))
     · exact Ev.AO h3 (j1 _ (by simp[h3]))
theorem MJ {a b:Int} (ha:U a) (hb:U b):Ev (λk=>Fa.f k a b) (wJ a b):=Ev.AZ (Pd hb) (Ev.bind (Fq ha (AHn b)) (Ev.same rfl))
theorem Y8 (x:Int):Go.bits .and .i64 x 1=x%2:=by
 have e:Go.bits .and .i64 x 1=IntKind.i64.wrap (((x%18446744073709551616).toNat &&& 1:Nat):Int):=by
  simp only[Go.bits,BitVec.toNat_and,BitVec.toNat_ofInt];rfl
 rw[e,Nat.and_one_is_mod,IntKind.wrap_i64];omega
theorem OW {b:Int} (h:U b) (hx:fx b≠2047):Ev (λk=>Ax.f k b) (fs b,pm b,pe b,true):=by
 have:=Ip h
 rwa [if_neg hx] at this
theorem ACu {m n E:Int} (neg:Bool) (hm0:0<=m) (hm:m<9007199254740992) (hn0:0<=n) (hn:n<9007199254740992) (hE0 : -3000<=E) (hE1:E<=3000) :
 Ev (λk=>(DZ.f m n).bind λeH=>((BF.f k eH.1).bind λiO=>(if iO=0 then((Aw.f k neg eH.2 E).bind λAL5=>(some AL5)) else(if 0<=(wrap64 (64-iO)) then(if 0<=iO then(if(shl .u64 eH.2 (wrap64 (64-iO)))=0 then((Aw.f k neg (Go.bits .or .u64 (shl .u64 eH.1 (wrap64 (64-iO))) (shr .u64 eH.2 iO)) (wrap64 (E+iO))).bind λAL6=>(some AL6)) else((Aw.f k neg (Go.bits .or .u64 (Go.bits .or .u64 (shl .u64 eH.1 (wrap64 (64-iO))) (shr .u64 eH.2 iO)) 1) (wrap64 (E+iO))).bind λAL7=>(some AL7))) else(none)) else(none))))) (KG neg (Rd (m*n) E)):=by
 have hP0:0<=m*n:=AP7 hm0 hn0;have hP1:m*n<=9007199254740991*9007199254740991:=AST (by omega) (by omega) hn0 (by omega);refine Ev.AZ (JD (a:=m) (b:=n) (by unfold U;omega) (by unfold U;omega)) ?_;dsimp only;generalize m*n=P at *;have hhi:U (P/18446744073709551616):=by unfold U;omega
 refine Ev.bind (Fp hhi) ?_;have b1:=CM (P/18446744073709551616);have b2:bl (P/18446744073709551616)<=42:=CA (n:=42) (by omega);by_cases hz:bl (P/18446744073709551616)=0
 · have h0:P/18446744073709551616=0:=by
    rcases(show P/18446744073709551616=0\/0<P/18446744073709551616 by omega) with h | h
    · exact h
    · have:=Ds h
      omega
   refine Ev.AI hz (Ev.bind (CR (e:=E) neg (m:=P%18446744073709551616) (by unfold U;omega)) (Ev.same ?_));rw[M7 (by omega) (by omega),show P%18446744073709551616=P by omega]
 · refine Ev.AO hz ?_
   have hbP:bl P=bl (P/18446744073709551616)+64:=by
    have hge:18446744073709551616<=P:=by
     rcases AQf P 18446744073709551616 with h | h
     · rw[AQV hP0 h] at hz
       exact absurd Lo hz
     · exact h
    exact Rg (x:=P) (s:=64) hge
   have hlt:=HN (P/18446744073709551616);obtain⟨s,hs⟩ : ∃s:Nat,bl (P/18446744073709551616)=s:=⟨(bl (P/18446744073709551616)).toNat,by omega⟩;rw[hs] at hlt hz b2 hbP ⊢;rw[APr] at hlt;rw[AE (n:=64-(s:Int)) (by omega) (by omega)];refine Ev.AI (by omega) (Ev.AI (by omega) ?_);rw[Ld _ _ (by omega),Ld _ _ (by omega),Wd _ _ (by omega),show(64-(s:Int)).toNat=64-s by omega,APr,nG _ (show s<=64 by omega)];have hp:=pow_pos s;have Mo:=pow_pos (64-s);have eI:(2:Int)^(64-s)*2^s=18446744073709551616:=(by rw[<-AQK,show 64-s+s=64 by omega];rfl);have AJL:0<=P/18446744073709551616*2^(64-s):=AP7 (by omega) (by omega);have APR:P/18446744073709551616*2^(64-s)+2^(64-s)<=18446744073709551616:=by
    have:=AP2 (show P/18446744073709551616+1<=2^s by omega) (APs Mo);rw[ARY,ARL,AP6 (2^s),eI] at this;exact this
   have AHt:0<=P%18446744073709551616/2^s:=AQC (by omega) (by omega);have AHu:P%18446744073709551616/2^s<2^(64-s):=(by rw[AQL hp,eI];omega);have eP:P=P/18446744073709551616*2^(64-s)*2^s+P%18446744073709551616:=(by rw[AQT,eI];omega);have eq1:P/18446744073709551616*2^(64-s)+P%18446744073709551616/2^s=P/2^s:=by
    conv=>rhs;rw[eP]
    rw[ARa (P/18446744073709551616*2^(64-s)*2^s),Int.add_mul_ediv_right _ _ (by omega),ARa]
   have eq2:P%18446744073709551616%2^s=P%2^s:=by
    conv=>rhs;rw[eP]
    rw[ARa,Int.add_mul_emod_self_right]
   have hor:Go.bits .or .u64 (P/18446744073709551616*2^(64-s)%18446744073709551616) (P%18446744073709551616/2^s)=P/2^s:=by
    rw[AQU AJL (by omega),F6 (64-s) _ _ AJL (AS6 ..) (by omega) AHt AHu (by omega)];exact eq1
   rw[hor,eq2,AE (by omega) (by omega)];have hU:U (P/2^s):=(by unfold U;omega);have AJM:0<P:=by
    rcases(show P=0\/0<P by omega) with h | h
    · rw[h,Lo] at hbP;omega
    · exact h
   have hst:=AJN (M:=P) (e:=E) (s:=s) AJM (by unfold un;omega);have r0:=AQJ P (show(2:Int)^s≠0 by omega);by_cases h1:P%2^s=0
   · refine Ev.AI (by rw[h1,AQ1]) ?_
     unfold st at hst;rw[if_pos h1] at hst;refine Ev.bind (CR (e:=E+s) neg hU) (Ev.same ?_);rw[M7 (by omega) (by omega),hst]
   · refine Ev.AO ?_ ?_
     · have:=AQ0 Mo (show 0<P%2^s by omega)
       omega
     · unfold st at hst
       rw[if_neg h1] at hst;rw[nL hU];refine Ev.bind (CR (e:=E+s) neg (m:=P/2^s/2*2+1) (by unfold U at *;omega)) (Ev.same ?_);rw[M7 (by omega) (by omega),hst]
theorem Dj {a b:Int} (ha:U a) (hb:U b):Ev (λk=>Ag.f k a b) (Pc a b):=by
 refine Ev.AZ (CJ ha) (Ev.AZ (CJ hb) (Ev.AZ (Dh ha) (Ev.AZ (Dh hb) ?_)));have eb:(!(fs a==fs b))=(fs a !=fs b):=rfl;rw[eb];generalize hneg:(fs a !=fs b)=neg;have hF:Pc a b=if fk a=4\/fk b=4\/(fk a=3/\fk b=0)\/(fk a=0/\fk b=3) then gw else if fk a=3\/fk b=3 then KG neg Xz else KG neg (Rd (pm a*pm b) (pe a+pe b)):=by
  unfold Pc;rw[hneg]
 have j2 : ∀t:Bool,(fk a≠4/\fk b≠4)->(fk a=3\/fk b=3)->(t=true↔(fk a=0\/fk b=0))->Ev (λk=>Ag.j2 k neg t) (Pc a b):=by
  intro t h4 h3 ht;refine Ev.step (λk=>Ag.j2.eq_2 ..) ?_;rw[hF];by_cases h:fk a=0\/fk b=0
  · have hc:fk a=4\/fk b=4\/(fk a=3/\fk b=0)\/(fk a=0/\fk b=3):=by omega
    rw[if_pos hc];exact Ev.AI (ht.2 h) (Ev.AZ En (Ev.same rfl))
  · rw[if_neg (show¬(fk a=4\/fk b=4\/(fk a=3/\fk b=0)\/(fk a=0/\fk b=3)) by omega),if_pos h3]
    exact Ev.AO (λk=>h (ht.1 k)) (Ev.AZ (GU neg) (Ev.same rfl))
 have j1 : ∀t:Bool,(fk a≠4/\fk b≠4)->(t=true↔(fk a=3\/fk b=3))->Ev (λk=>Ag.j1 k a b (fk a) (fk b) neg t) (Pc a b):=by
  intro t h4 ht;refine Ev.step (λk=>Ag.j1.eq_2 ..) ?_;by_cases h:fk a=3\/fk b=3
  · refine Ev.AI (ht.2 h) ?_
    by_cases h0:fk a=0
    · exact Ev.AI h0 (j2 _ h4 h (by simp[h0]))
    · exact Ev.AO h0 (j2 _ h4 h (by simp[h0]))
  · refine Ev.AO (λk=>h (ht.1 k)) ?_
    have fa:fx a≠2047:=LS h4.1 (λk=>h (.inl k));have fb:fx b≠2047:=LS h4.2 (λk=>h (.inr k));refine Ev.bind (OW ha fa) (Ev.bind (OW hb fb) ?_);have a1:=FB a;have a2:=Gw a;have b1:=FB b;have b2:=Gw b;dsimp only;rw[AE (n:=pe a+pe b) (by omega) (by omega)];rw[hF,if_neg (show¬(fk a=4\/fk b=4\/(fk a=3/\fk b=0)\/(fk a=0/\fk b=3)) by omega),if_neg h];exact ACu neg a1.1 a1.2 b1.1 b1.2 (by omega) (by omega)
 have j0 : ∀t:Bool,(t=true↔(fk a=4\/fk b=4))->Ev (λk=>Ag.j0 k a b (fk a) (fk b) neg t) (Pc a b):=by
  intro t ht;refine Ev.step (λk=>Ag.j0.eq_2 ..) ?_;by_cases h:fk a=4\/fk b=4
  · refine Ev.AI (ht.2 h) (Ev.AZ En (Ev.same ?_))
    have hc:fk a=4\/fk b=4\/(fk a=3/\fk b=0)\/(fk a=0/\fk b=3):=(by omega);rw[hF,if_pos hc]
  · refine Ev.AO (λk=>h (ht.1 k)) ?_
    by_cases h3:fk a=3
    · exact Ev.AI h3 (j1 _ (by omega) (by simp[h3]))
    · exact Ev.AO h3 (j1 _ (by omega) (by simp[h3]))
 by_cases h:fk a=4
 · exact Ev.AI h (j0 _ (by simp[h]))
 · exact Ev.AO h (j0 _ (by simp[h]))
theorem Rj (neg:Bool):Ev (λk=>Fc.f k neg) (KG neg 0):=by
 refine Ev.bind (Jc neg (m:=0) (e:=0) (by unfold U;omega) (by omega) (by omega)) (Ev.same ?_);rw[Wc]
theorem sG {m:Int} (h0:0<m) (h1:m<9007199254740992):4611686018427387904<=m*2^(63-bl m).toNat/\m*2^(63-bl m).toNat<9223372036854775808/\9223372036854775808<=m*2^(64-bl m).toNat/\m*2^(64-bl m).toNat<18446744073709551616:=by
 have b2:bl m<=53:=CA (n:=53) (by omega);have t:=ACv h0 (by omega);have e:m*2^(64-bl m).toNat=m*2^(63-bl m).toNat*2:=by
  rw[show(64-bl m).toNat=(63-bl m).toNat+1 by omega,AQH,AQT]
 rw[e] at t ⊢;omega
theorem NA {a b:Int} (ha:U a) (hb:U b):Ev (λk=>BM.f k a b) (fdiv a b):=by
 refine Ev.AZ (CJ ha) (Ev.AZ (CJ hb) (Ev.AZ (Dh ha) (Ev.AZ (Dh hb) ?_)));have eb:(!(fs a==fs b))=(fs a !=fs b):=rfl;rw[eb];generalize hneg:(fs a !=fs b)=neg;have hF:fdiv a b=if fk a=4\/fk b=4\/(fk a=3/\fk b=3)\/(fk a=0/\fk b=0) then gw else if fk a=3\/fk b=0 then KG neg Xz else if fk a=0\/fk b=3 then KG neg 0 else KG neg (qd (pm a) (pe a) (pm b) (pe b)):=by
  unfold fdiv;rw[hneg]
 have j1 : ∀t:Bool,¬(fk a=4\/fk b=4\/(fk a=3/\fk b=3)\/(fk a=0/\fk b=0))->(t=true↔(fk a=3\/fk b=0))->Ev (λk=>BM.j1 k a b (fk a) (fk b) neg t) (fdiv a b):=by
  intro t h4 ht;refine Ev.step (λk=>BM.j1.eq_2 ..) ?_;rw[hF,if_neg h4];by_cases h:fk a=3\/fk b=0
  · rw[if_pos h]
    exact Ev.AI (ht.2 h) (Ev.AZ (GU neg) (Ev.same rfl))
  · rw[if_neg h]
    refine Ev.AO (λk=>h (ht.1 k)) ?_;by_cases h1:fk a=0
    · rw[if_pos (.inl h1)]
      exact Ev.AI h1 (Ev.bind (Rj neg) (Ev.same rfl))
    · refine Ev.AO h1 ?_
      by_cases h2:fk b=3
      · rw[if_pos (.inr h2)]
        exact Ev.AI h2 (Ev.bind (Rj neg) (Ev.same rfl))
      · rw[if_neg (by omega)]
        have fa:fx a≠2047:=LS (by omega) (by omega);have fb:fx b≠2047:=LS (by omega) (by omega);have za:pm a≠0:=λk=>h1 ((Wb a).2.2.2.1.2 ⟨fa,k⟩)
        have zb:pm b≠0:=λk=>h (.inr ((Wb b).2.2.2.1.2 ⟨fb,k⟩))
        refine Ev.AO h2 (Ev.bind (OW ha fa) (Ev.bind (OW hb fb) ?_));have a1:=FB a;have a2:=Gw a;have b1:=FB b;have b2:=Gw b;have na:=CM (pm a);have nb:=CM (pm b);have ba:bl (pm a)<=53:=CA (n:=53) (by omega);have bb:bl (pm b)<=53:=CA (n:=53) (by omega);have ta:=sG (m:=pm a) (by omega) a1.2;have tb:=sG (m:=pm b) (by omega) b1.2;have a3 : -1074<=pe a/\pe a<=972:=⟨a2.1,a2.2.1⟩;have b3 : -1074<=pe b/\pe b<=972:=⟨b2.1,b2.2.1⟩;dsimp only;refine Ev.bind (Fp (x:=pm a) (by unfold U;omega)) (Ev.bind (Fp (x:=pm b) (by unfold U;omega)) ?_);clear a2 b2 hF h4 ht h h1 h2 fa fb;unfold qd;generalize pm a=m at *;generalize pm b=n at *;generalize pe a=e at *;generalize pe b=f at *;rw[AE (n:=63-bl m) (by omega) (by omega),AE (n:=64-bl n) (by omega) (by omega)];refine Ev.AI (by omega) (Ev.AI (by omega) ?_);rw[Ld _ _ (by omega),Ld _ _ (by omega),AQU (by omega) (by omega),AQU (by omega) (by omega)];rw[AE (n:=e-(63-bl m)) (by omega) (by omega),AE (n:=e-(63-bl m)-f) (by omega) (by omega),AE (n:=e-(63-bl m)-f+(64-bl n)) (by omega) (by omega),AE (n:=e-(63-bl m)-f+(64-bl n)-64) (by omega) (by omega)];have eE:e-(63-bl m)-f+(64-bl n)-64=e-f+bl m-bl n-63:=(by omega);have eE2:e-f+bl m-bl n-64=e-f+bl m-bl n-63-1:=(by omega);have hE : -5000<=e-f+bl m-bl n-63/\e-f+bl m-bl n-63<=5000:=(by omega);rw[eE,eE2];generalize e-f+bl m-bl n-63=E at *;generalize m*2^(63-bl m).toNat=M at *;generalize n*2^(64-bl n).toNat=N at *;have D:=VL (hi:=M) (lo:=0) (d:=N) (by omega) (by omega) (by omega) (by unfold U;omega);rw[AQ2] at D;have q0:4611686018427387904<=M*18446744073709551616/N:=(by rw[AQm (by omega)];omega);have q1:M*18446744073709551616/N<18446744073709551616:=(by rw[AQL (by omega)];omega);refine Ev.bind D ?_;dsimp only;generalize M*18446744073709551616/N=q at *;generalize M*18446744073709551616%N=r at *;by_cases hr:r=0
        · rw[if_pos hr]
          refine Ev.AI hr (Ev.bind (CR (e:=E) neg (m:=q) (by unfold U;omega)) (Ev.same ?_));rw[M7 (by omega) (by omega)]
        · rw[if_neg hr]
          refine Ev.AO hr ?_;rw[nL (by unfold U;omega)];refine Ev.bind (CR (e:=E) neg (m:=q/2*2+1) (by unfold U;omega)) (Ev.same ?_);rw[M7 (by omega) (by omega),AFG q0]
 have j0 : ∀t:Bool,(t=true↔(fk a=4\/fk b=4\/(fk a=3/\fk b=3)\/(fk a=0/\fk b=0)))->Ev (λk=>BM.j0 k a b (fk a) (fk b) neg t) (fdiv a b):=by
  intro t ht;refine Ev.step (λk=>BM.j0.eq_2 ..) ?_;by_cases h:fk a=4\/fk b=4\/(fk a=3/\fk b=3)\/(fk a=0/\fk b=0)
  · refine Ev.AI (ht.2 h) (Ev.AZ En (Ev.same ?_))
    rw[hF,if_pos h]
  · refine Ev.AO (λk=>h (ht.1 k)) ?_
    by_cases h3:fk a=3
    · exact Ev.AI h3 (j1 _ h (by simp[h3]))
    · exact Ev.AO h3 (j1 _ h (by simp[h3]))
 by_cases h:fk a=4
 · exact Ev.AI h (j0 _ (by simp[h]))
 · refine Ev.AO h ?_
   by_cases h2:fk b=4
   · exact Ev.AI h2 (j0 _ (by simp[h2]))
   · refine Ev.AO h2 ?_
     by_cases h3:fk a=fk b
     · refine Ev.AI h3 ?_
       by_cases h5:fk a=3
       · exact Ev.AI h5 (j0 _ (by simp;omega))
       · exact Ev.AO h5 (j0 _ (by simp;omega))
     · exact Ev.AO h3 (j0 _ (by simp;omega))
theorem AFQ {t hi:Int} (h0:0<=t) (h1:t<18446744073709551616) (hhi:U hi):(t*t/18446744073709551616<hi\/(t*t/18446744073709551616=hi/\t*t%18446744073709551616=0))↔t*t<=hi*18446744073709551616:=by
 have:=AP7 h0 h0;generalize t*t=q at *;omega
theorem nM {hi R:Int} (hhi:U hi) (hR:JC (hi*18446744073709551616) R) (hR1:R<18446744073709551616) (j:Nat) (hj:j<=64) : ∀r:Int,0<=r->r%2^j=0->r<=R->R<r+2^j->Ev (λk=>CC.l0 k hi r (2^j/2)) (R,decide (R*R=hi*18446744073709551616)):=by
 induction j with
 | zero =>
   intro r h0 hm h1 h2;rw[AQA] at h2;obtain rfl:r=R:=by omega
   refine Ev.step (λk=>CC.l0.eq_2 ..) (Ev.AO (by decide) ?_);refine Ev.AZ (JD (a:=r) (b:=r) (by unfold U;omega) (by unfold U;omega)) ?_;dsimp only;have:=AP7 h0 h0;have hle:=hR.2.1;generalize r*r=q at *;by_cases h:q/18446744073709551616=hi
   · refine Ev.AI h (Ev.same ?_)
     congr 2
     by_cases h3:q%18446744073709551616=0
     · rw[h3,decide_eq_true (by omega)];rfl
     · rw[decide_eq_false (by omega),beq_eq_false_iff_ne]
       exact h3
   · refine Ev.AO h (Ev.same ?_)
     rw[decide_eq_false (by omega)]
 | succ j ih =>
   intro r h0 hm h1 h2;have hp:=pow_pos j;have e2:(2:Int)^(j+1)/2=2^j:=(by rw[AQH];omega);have AO7:(2:Int)^j<=2^63:=A7 (by omega);rw[e2];refine Ev.step (λk=>CC.l0.eq_2 ..) (Ev.AI hp ?_);rw[AQH] at h2;have hdvd:r+2^j<18446744073709551616:=by
    have hm':=AP9 r (2^(j+1));rw[hm,AQ2] at hm';have Mp:=pow_pos (j+1);have eI:(2:Int)^(j+1)*2^(63-j)=18446744073709551616:=(by rw[<-AQK,show j+1+(63-j)=64 by omega];rfl);have hq:r/2^(j+1)<2^(63-j):=(by rw[AQL Mp,AP6,eI];omega);have:=AQD (show r/2^(j+1)+1<=2^(63-j) by omega) (APs Mp);rw[eI,ART,AQQ,hm',AQH] at this;omega
   rw[F6 (j+1) _ _ h0 hm (by omega) (by omega) (by rw[AQH];omega) (by omega)];refine Ev.AZ (JD (a:=r+2^j) (b:=r+2^j) (by unfold U;omega) (by unfold U;omega)) ?_;dsimp only;have ht:=AFQ (t:=r+2^j) (by omega) hdvd hhi;have hm2:(r+2^j)%2^j=0:=by
    have hm':=AP9 r (2^(j+1));rw[hm,AQ2,AQH,AQT] at hm';rw[<-hm',ASx];exact ARI ..
   have hm3:r%2^j=0:=by
    have hm':=AP9 r (2^(j+1));rw[hm,AQ2,AQH,AQT] at hm';rw[<-hm'];exact ARI ..
   have yes:(r+2^j)*(r+2^j)<=hi*18446744073709551616->Ev (λk=>CC.l0 k hi (r+2^j) (2^j/2)) (R,decide (R*R=hi*18446744073709551616)):=by
    intro h;have hlt:r+2^j<R+1:=FA (by have:=hR.1;omega) (by have:=hR.2.2;omega);exact ih (by omega) (r+2^j) (by omega) hm2 (by omega) (by omega)
   have no : ¬(r+2^j)*(r+2^j)<=hi*18446744073709551616->Ev (λk=>CC.l0 k hi r (2^j/2)) (R,decide (R*R=hi*18446744073709551616)):=by
    intro h;have hlt:R<r+2^j:=FA (by omega) (by have:=hR.2.1;omega);exact ih (by omega) r h0 hm3 h1 hlt
   by_cases c1:(r+2^j)*(r+2^j)/18446744073709551616<hi
   · exact Ev.AI c1 (yes (ht.1 (.inl c1)))
   · refine Ev.AO c1 ?_
     by_cases c2:(r+2^j)*(r+2^j)/18446744073709551616=hi
     · refine Ev.AI c2 ?_
       by_cases c3:(r+2^j)*(r+2^j)%18446744073709551616=0
       · exact Ev.AI c3 (yes (ht.1 (.inr ⟨c2,c3⟩)))
       · exact Ev.AO c3 (no (λk=>(ht.2 k).elim c1 (λx=>c3 x.2)))
     · exact Ev.AO c2 (no (λk=>(ht.2 k).elim c1 (λx=>c2 x.1)))
theorem nN {hi R:Int} (hhi:U hi) (hR:JC (hi*18446744073709551616) R):Ev (λk=>CC.f k hi) (R,decide (R*R=hi*18446744073709551616)):=by
 have hR1:R<18446744073709551616:=FA (by omega) (by have:=hR.2.1;unfold U at hhi;omega);exact nM hhi hR hR1 64 (by omega) 0 (by omega) (by decide) hR.1 (by omega)
theorem UF {b:Int} (h:U b) (hk:fk b=4\/(fk b≠0/\fs b=true)):Ev (λk=>B4.f k b) gw:=by
 refine Ev.AZ (CJ h) ?_;by_cases h4:fk b=4
 · exact Ev.AI h4 (Ev.AZ En (Ev.same rfl))
 · have hs:=(hk.resolve_left h4)
   refine Ev.AO h4 ?_;by_cases h3:fk b=3
   · exact Ev.AI h3 (Ev.AZ (Dh h) (Ev.AI hs.2 (Ev.AZ En (Ev.same rfl))))
   · refine Ev.AO h3 (Ev.AO hs.1 ?_)
     exact Ev.AZ (Dh h) (Ev.AI hs.2 (Ev.AZ En (Ev.same rfl)))
theorem Qk {b:Int} (h:U b) (hk:fk b=0\/(fk b=3/\fs b=false)):Ev (λk=>B4.f k b) b:=by
 refine Ev.AZ (CJ h) (Ev.AO (by omega) ?_);by_cases h3:fk b=3
 · have hs:=hk.resolve_left (by omega)
   exact Ev.AI h3 (Ev.AZ (Dh h) (Ev.AO (by rw[hs.2];decide) (Ev.same rfl)))
 · exact Ev.AO h3 (Ev.AI (by omega) (Ev.same rfl))
theorem zJ {m e w:Int} {up:Nat} (h0:0<m) (hm:m<9007199254740992) (he0 : -1074<=e) (he1:e<=971) (hup:(up:Int)=126-bl m\/(up:Int)=125-bl m) (hpar:(e-up)%2=0) (hw:wP m e w):Ev (λk=>B4.j0 k m e (up:Int)) w:=by
 have b1:=Ds h0;have b2:bl m<=53:=CA (n:=53) hm;have l1:=HN m;have l2:=Wj h0;refine Ev.step (λk=>B4.j0.eq_2 ..) ?_;obtain⟨t,ht⟩ : ∃t:Nat,up=t+64:=⟨up-64,by omega⟩;subst ht;have hp:=pow_pos t;have et:wrap64 (((t+64:Nat):Int)-64)=t:=by rw[AE (by omega) (by omega)];omega
 rw[et];refine Ev.AI (by omega) ?_;have hlt:m*2^t<2^62:=by
  have:=AQw l1 hp;rw[<-AQK] at this;have:=A7 (a:=(bl m).toNat+t) (b:=62) (by omega);omega
 have hge:2^60<=m*2^t:=by
  have:=AP2 l2 (APs hp);rw[<-AQK] at this;have:=A7 (a:=60) (b:=(bl m-1).toNat+t) (by omega);omega
 rw[Ld _ _ (by omega),APr,AQU (by omega) (by omega)];have eX:m*2^t*18446744073709551616=m*2^(t+64):=by rw[AQK,<-AQT];rfl
 obtain⟨R,hR⟩:=bP (A:=m*2^(t+64)) (by rw[<-eX];omega);have AGI:=nN (hi:=m*2^t) (R:=R) (by unfold U;omega) (by rw[eX];exact hR);rw[eX] at AGI;refine Ev.bind AGI ?_;dsimp only;have hR0:=hR.1;have hR2:=hR.2.2;have hR1:=hR.2.1;have AL8:(1073741824*1073741824:Int)*4294967296<=m*2^(t+64):=by rw[<-eX];omega
 have AJO:(18014398509481984:Int)<=R:=by
  have:(18014398509481984:Int)<R+1:=FA (by omega) (by omega);omega
 have ACw:R<18446744073709551616:=FA (by omega) (by rw[<-eX] at hR1;omega);obtain⟨c,hc⟩ : ∃c:Int,e-((t+64:Nat):Int)=2*c:=⟨(e-((t+64:Nat):Int))/2,by omega⟩;have eE:wrap64 (Int.tdiv (wrap64 (e-((t+64:Nat):Int))) 2)=c:=by
  rw[AE (n:=e-((t+64:Nat):Int)) (by omega) (by omega),hc,AS7 _ (by decide),AE (by omega) (by omega)]
 rw[eE];have hwR:w=Rd (sv (m*2^(t+64)) R) (c-1):=Y7 hw ⟨t+64,c-1,R,by omega,hR,by omega,rfl⟩;have sH:=AFO (c:=c) hR AJO;rw[<-hwR] at sH;by_cases hx:R*R=m*2^(t+64)
 · rw[if_pos hx] at sH
   refine Ev.AI (decide_eq_true hx) (Ev.bind (CR (e:=c) false (m:=R) (by unfold U;omega)) (Ev.same ?_));rw[M7 (by omega) (by omega),sH];rfl
 · rw[if_neg hx] at sH
   refine Ev.AO (by rw[decide_eq_false hx];decide) ?_;rw[nL (by unfold U;omega)];refine Ev.bind (CR (e:=c) false (m:=R/2*2+1) (by unfold U;omega)) (Ev.same ?_);rw[M7 (by omega) (by omega),sH];rfl
theorem nO {b w:Int} (h:U b) (h4:fk b≠4) (h3:fk b≠3) (h0:fk b≠0) (hs:fs b=false) (hw:wP (pm b) (pe b) w):Ev (λk=>B4.f k b) w:=by
 refine Ev.AZ (CJ h) (Ev.AO h4 (Ev.AO h3 (Ev.AO h0 ?_)));refine Ev.AZ (Dh h) (Ev.AO (by rw[hs];decide) ?_);have hf:=LS h4 h3;refine Ev.bind (OW h hf) ?_;have a1:=FB b;have a2:=Gw b;have hz:pm b≠0:=λk=>h0 ((Wb b).2.2.2.1.2 ⟨hf,k⟩)
 have a3:=a2.2.2.1 hf;dsimp only;refine Ev.bind (Fp (x:=pm b) (by unfold U;omega)) ?_;have b1:=Ds (x:=pm b) (by omega);have b2:bl (pm b)<=53:=CA (n:=53) (by omega);obtain⟨up,hup⟩ : ∃up:Nat,(up:Int)=126-bl (pm b):=⟨(126-bl (pm b)).toNat,by omega⟩;rw[AE (n:=126-bl (pm b)) (by omega) (by omega),<-hup,Y8,AE (n:=pe b-(up:Int)) (by omega) (by omega)];by_cases hp:(pe b-(up:Int))%2=0
 · exact Ev.AI hp (zJ (by omega) a1.2 a2.1 a3 (.inl hup) hp hw)
 · refine Ev.AO hp ?_
   have e1:wrap64 ((up:Int)-1)=((up-1:Nat):Int):=(by rw[AE (by omega) (by omega)];omega);rw[e1];exact zJ (by omega) a1.2 a2.1 a3 (.inr (by omega)) (by omega) hw
theorem sI (x:Int):Int.tmod x 2=0↔x%2=0:=⟨λh=>Int.emod_eq_zero_of_dvd (Int.dvd_of_tmod_eq_zero h),λh=>Int.tmod_eq_zero_of_dvd (Int.dvd_of_emod_eq_zero h)⟩
theorem UG {m e w:Int} {up:Nat} (h0:0<m) (hm:m<9007199254740992) (he0 : -1074<=e) (he1:e<=971) (hup:160<=up) (APS:up<=161) (hpar:(e-up)%2=0) (hw:wP m e w):Ev (λk=>DH.j1 k m e (up:Int)) w:=by
 refine Ev.step (λk=>DH.j1.eq_2 ..) ?_;have S:=GX (a:= [m]) ⟨JB (by unfold U;omega),by simp⟩ (by simp) (up:Int);rw[Jd,TP (by omega),APr] at S;refine Ev.bind S ?_;have hp:=pow_pos up;have hX0:0<=m*2^up:=AP7 (by omega) (by omega);have AL4:(1329227995784915872903807060280344576:Int)<=m*2^up:=by
  have a1:=A7 (a:=120) (b:=up) (by omega);have:=AP2 (show 1<=m by omega) (APs hp);have e1:(2:Int)^120=1329227995784915872903807060280344576:=by decide
  omega
 have bX:bl (m*2^up)<=53+161:=by
  have b1:bl m<=53:=CA (n:=53) (by omega);have:=eF h0 up;omega
 obtain⟨R,hR⟩:=bP hX0;have lX:=AQ (m*2^up);have T:=nP (a:=dg (m*2^up)) (BO (by omega)) (by omega) (R:=R) (by rw[AY hX0];exact hR);refine Ev.bind T ?_;have hR0:=hR.1;have AL9:R*R<=m*2^up:=hR.2.1;have hRR:R<=R*R:=by
  rcases(show R=0\/1<=R by omega) with h | h
  · rw[h];decide
  · have:=AP2 h hR0
    omega
 have bR:=B9 (show R<=m*2^up by omega);have bRR:=B9 AL9;have lR:=AQ R;have M:=M6 (a:=dg R) (b:=dg R) (BO (by omega)) (BO (by omega)) (by omega) (by omega);rw[AY hR0] at M;refine Ev.bind M ?_;have C:=JO (a:=dg (R*R)) (b:=dg (m*2^up)) (BO (by omega)) (BO (by omega));rw[AY (by omega),AY hX0] at C;refine Ev.bind C ?_;obtain⟨c,hc⟩ : ∃c:Int,e-(up:Int)=2*c:=⟨(e-(up:Int))/2,by omega⟩;have eE:wrap64 (Int.tdiv (wrap64 (e-(up:Int))) 2)=c:=by
  rw[AE (n:=e-(up:Int)) (by omega) (by omega),hc,AS7 _ (by decide),AE (by omega) (by omega)]
 rw[eE];have AL8:(18014398509481984:Int)<=R:=by
  have:(18014398509481984:Int)<R+1:=FA (by omega) (by have:=hR.2.2;omega);omega
 have MO:=nJ false (l:=dg R) (BO (by omega)) (by omega) c (Gk (R*R) (m*2^up) !=0);rw[AY hR0,M7 (by omega) (by omega)] at MO;refine Ev.bind MO (Ev.same ?_);have hwR:w=Rd (sv (m*2^up) R) (c-1):=Y7 hw ⟨up,c-1,R,by omega,hR,by omega,rfl⟩;rw[hwR];unfold sv;by_cases hx:R*R=m*2^up
 · rw[if_pos hx]
   have:(Gk (R*R) (m*2^up) !=0)=false:=by rw[bne_eq_false_iff_eq];exact TQ.2 hx
   rw[this];have:=Im (show 0<R by omega) c 1;rw[ARX,AP6] at this;show some (KG false (Rd R c))=some (Rd (2*R) (c-1));rw[<-this];rfl
 · rw[if_neg hx]
   have:(Gk (R*R) (m*2^up) !=0)=true:=by rw[bne_iff_ne];exact λk=>hx (TQ.1 k)
   rw[this];rfl
theorem UH {b:Int} (h:U b) (hk:fk b=4\/(fk b≠0/\fs b=true)):Ev (λk=>DH.f k b) gw:=by
 refine Ev.AZ (Pe h) (Ev.AO (by omega) ?_);by_cases h4:fk b=4
 · exact Ev.AI h4 (Ev.step (λk=>DH.j0.eq_2 ..) (Ev.AI rfl (Ev.AZ Y3 (Ev.same rfl))))
 · have hs:=(hk.resolve_left h4)
   exact Ev.AO h4 (Ev.AZ (Rb h) (Ev.step (λk=>DH.j0.eq_2 ..) (Ev.AI hs.2 (Ev.AZ Y3 (Ev.same rfl)))))
theorem Ql {b:Int} (h:U b) (hk:fk b=0\/(fk b=3/\fs b=false)):Ev (λk=>DH.f k b) b:=by
 refine Ev.AZ (Pe h) ?_;by_cases h0:fk b=0
 · exact Ev.AI h0 (Ev.same rfl)
 · have hs:=hk.resolve_left h0
   refine Ev.AO h0 (Ev.AO (by omega) (Ev.AZ (Rb h) (Ev.step (λk=>DH.j0.eq_2 ..) ?_)));exact Ev.AO (by rw[hs.2];decide) (Ev.AI hs.1 (Ev.same rfl))
theorem nQ {b w:Int} (h:U b) (h4:fk b≠4) (h3:fk b≠3) (h0:fk b≠0) (hs:fs b=false) (hw:wP (pm b) (pe b) w):Ev (λk=>DH.f k b) w:=by
 refine Ev.AZ (Pe h) (Ev.AO h0 (Ev.AO h4 (Ev.AZ (Rb h) ?_)));refine Ev.step (λk=>DH.j0.eq_2 ..) (Ev.AO (by rw[hs];decide) (Ev.AO h3 (Ev.AZ (iK h) ?_)));have hf:=LS h4 h3;have a1:=FB b;have a2:=Gw b;have hz:pm b≠0:=λk=>h0 ((Wb b).2.2.2.1.2 ⟨hf,k⟩)
 have a3:=a2.2.2.1 hf;dsimp only;rw[AE (n:=pe b-160) (by omega) (by omega)];by_cases hp:(pe b-160)%2=0
 · exact Ev.AI ((sI _).2 hp) (UG (up:=160) (by omega) a1.2 a2.1 a3 (by omega) (by omega) hp hw)
 · exact Ev.AO (λk=>hp ((sI _).1 k)) (UG (up:=161) (by omega) a1.2 a2.1 a3 (by omega) (by omega) (by omega) hw)
theorem eJ {b:Int} (h:U b):Je.f b=some (wQ b):=by
 unfold Je.f;rw[Dh h,wu];unfold U at h;show(if fs b=true then some (wrap64 (-(wrap64 (b*2%18446744073709551616/2)))) else some (wrap64 (b*2%18446744073709551616/2)))=some (wQ b);unfold wQ fs;by_cases hb:b>=9223372036854775808
 · rw[decide_eq_true hb,if_pos rfl,if_pos rfl,AE (n:=b*2%18446744073709551616/2) (by omega) (by omega),AE (by omega) (by omega)]
   congr 1
   omega
 · rw[decide_eq_false hb,if_neg (by decide),if_neg (by decide),AE (by omega) (by omega)]
   congr 1
   omega
theorem nR {a b:Int} (ha:U a) (hb:U b):Hf.f a b=some (decide (fk a≠4/\fk b≠4)):=by
 unfold Hf.f;rw[CJ ha,CJ hb];show(if fk a=4 then some false else some (fk b !=4))=_;by_cases h:fk a=4
 · rw[if_pos h,decide_eq_false (λk=>k.1 h)]
 · rw[if_neg h]
   congr 1
   by_cases h2:fk b=4
   · rw[decide_eq_false (λk=>k.2 h2),bne_eq_false_iff_eq];exact h2
   · rw[decide_eq_true ⟨h,h2⟩,bne_iff_ne];exact h2
theorem K4 {a b:Int} (ha:U a) (hb:U b):EL.f a b=some (less a b):=by
 unfold EL.f less;rw[nR ha hb,eJ ha,eJ hb];show(if decide (fk a≠4/\fk b≠4)=true then some (decide (wQ a<wQ b)) else some false)=_;by_cases h:fk a≠4/\fk b≠4
 · rw[decide_eq_true h,if_pos rfl]
   congr 1
   simp[h.1,h.2]
 · rw[decide_eq_false h,if_neg (by decide),decide_eq_false (λk=>h ⟨k.1,k.2.1⟩)]
theorem zK {b:Int} (h:fx b=2047\/bl (pm b)+pe b>62):near b=(0,false):=by unfold near;rw[if_pos h]
theorem ACx {b:Int} (h:fx b≠2047) (h2:bl (pm b)+pe b<=62):near b=(if fs b then -(ru (pm b) (pe b) 0) else ru (pm b) (pe b) 0,true):=by
 unfold near;rw[if_neg (by omega)]
theorem nS {n:Int} (neg t:Bool) (h0:0<=n) (h1:n<=4611686018427387904):Ev (λk=>B6.j1 k neg n t) (if neg then -(if t then n+1 else n) else(if t then n+1 else n),true):=by
 refine Ev.step (λk=>B6.j1.eq_2 ..) ?_;cases t
 · refine Ev.AO (by decide) ?_
   cases neg
   · exact Ev.AO (by decide) (Ev.same rfl)
   · refine Ev.AI rfl (Ev.same ?_)
     rw[AE (by omega) (by omega)];rfl
 · refine Ev.AI rfl ?_
   cases neg
   · refine Ev.AO (by decide) (Ev.same ?_)
     rw[AE (by omega) (by omega)];rfl
   · refine Ev.AI rfl (Ev.same ?_)
     rw[AE (n:=n+1) (by omega) (by omega),AE (by omega) (by omega)];rfl
theorem sJ {b:Int} (h:U b):Ev (λk=>B6.f k b) (near b):=by
 have hP:=Ip h;have a1:=FB b;have a2:=Gw b;by_cases hx:fx b=2047
 · rw[if_pos hx] at hP
   refine Ev.bind hP (Ev.AO (by decide) (Ev.step (λk=>B6.j0.eq_2 ..) (Ev.AI rfl (Ev.same ?_))));rw[zK (.inl hx)]
 · rw[if_neg hx] at hP
   refine Ev.bind hP (Ev.AI rfl (Ev.bind (Fp (x:=pm b) (by unfold U;omega)) ?_));dsimp only;have b0:=CM (pm b);have b1:bl (pm b)<=53:=CA (n:=53) (by omega);have a3 : -1074<=pe b/\pe b<=972:=⟨a2.1,a2.2.1⟩;have a4:=a2.2.2.2;rw[AE (n:=bl (pm b)+pe b) (by omega) (by omega)];clear a2 hP;by_cases h1:bl (pm b)+pe b>62
   · refine Ev.step (λk=>B6.j0.eq_2 ..) (Ev.AI (decide_eq_true h1) (Ev.same ?_))
     rw[zK (.inr h1)]
   · rw[ACx hx (by omega)]
     refine Ev.step (λk=>B6.j0.eq_2 ..) (Ev.AO (by rw[decide_eq_false h1];decide) ?_);have l1:=HN (pm b);generalize pm b=m at *;generalize pe b=e at *;generalize fs b=neg;by_cases h2:e>=0
     · refine Ev.AI h2 (Ev.AI h2 ?_)
       have hlt:m*2^e.toNat<2^62:=by
        have hp:=pow_pos e.toNat;have:=AQw l1 hp;rw[<-AQK] at this;have:=A7 (a:=(bl m).toNat+e.toNat) (b:=62) (by omega);omega
       have hge:0<=m*2^e.toNat:=AP7 a1.1 (by have:=pow_pos e.toNat;omega);have er:ru m e 0=m*2^e.toNat:=by
        unfold ru;rw[show(0-e).toNat=0 by omega,MH,show e-0=e by omega]
       rw[er,Ld _ _ (by omega),AQU hge (by omega),AE (n:=m*2^e.toNat) (by omega) (by omega),AE (by omega) (by omega)];cases neg
       · exact Ev.AO (by decide) (Ev.same rfl)
       · exact Ev.AI rfl (Ev.same rfl)
     · refine Ev.AO h2 ?_
       by_cases h3:e> -64
       · refine Ev.AI h3 ?_
         obtain⟨d,hd⟩ : ∃d:Nat,-e=((d+1:Nat):Int):=⟨(-e).toNat-1,by omega⟩;have AJI:d+1<=63:=(by omega);have er:ru m e 0=RA m (d+1):=by
          unfold ru;rw[show(0-e).toNat=d+1 by omega,show(e-0).toNat=0 by omega,AQA,AQQ]
         rw[AE (n:= -e) (by omega) (by omega),AE (n:=64+e) (by omega) (by omega)];refine Ev.AI (by omega) (Ev.AI (by omega) ?_);have hp:=pow_pos (d+1);have q0:0<=m/2^(d+1):=AQC a1.1 (by omega);have q1:m/2^(d+1)<=m:=AQv _ a1.1;have r0:=AQJ m (show(2:Int)^(d+1)≠0 by omega);have r1:=AQG m hp;have hH:(2:Int)^(d+1)=2*2^d:=(by rw[AQH,AP6]);have hGH:(2:Int)^(64-(d+1))*2^d=9223372036854775808:=(by rw[<-AQK,show 64-(d+1)+d=63 by omega];rfl);rw[Wd _ _ (by omega),Ld _ _ (by omega),hd,APr,show(64+e).toNat=64-(d+1) by omega,zL m (show 64-(d+1)<=64 by omega),show 64-(64-(d+1))=d+1 by omega,AE (n:=m/2^(d+1)) (by omega) (by omega),Y8,er];have hG:=pow_pos (64-(d+1));have J:=λt=>nS (n:=m/2^(d+1)) neg t q0 (by omega)
         rcases AR1 (m%2^(d+1)) (2^d) with hc | hc | hc
         · have:2^(64-(d+1))*(m%2^(d+1))<9223372036854775808:=by rw[<-hGH];exact ARR hc hG
           refine Ev.AO (by omega) (Ev.AO (by omega) ((J false).dc ?_));have e1:RA m (d+1)=m/2^(d+1):=by
            unfold RA;rw[if_neg (by omega)]
           rw[e1];rfl
         · refine Ev.AO (by rw[hc,hGH];omega) (Ev.AI (by rw[hc,hGH]) ((J _).dc ?_))
           have e1:RA m (d+1)=if(m/2^(d+1)%2==1)=true then m/2^(d+1)+1 else m/2^(d+1):=by
            unfold RA;by_cases ho:m/2^(d+1)%2=1
            · rw[if_pos (.inr ⟨by omega,ho⟩),if_pos (by rw[ho];rfl)]
            · rw[if_neg (by omega),if_neg (by rw[beq_iff_eq];exact ho)]
           rw[e1]
         · have:9223372036854775808<2^(64-(d+1))*(m%2^(d+1)):=by rw[<-hGH];exact ARR hc hG
           refine Ev.AI (by omega) ((J true).dc ?_);have e1:RA m (d+1)=m/2^(d+1)+1:=by
            unfold RA;rw[if_pos (.inl (by omega))]
           rw[e1];rfl
       · refine Ev.AO h3 ?_
         have er:ru m e 0=0:=by
          unfold ru;rw[show(e-0).toNat=0 by omega,AQA,AQQ];have:=A7 (a:=64) (b:=(0-e).toNat) (by omega);exact YJ a1.1 (by omega)
         rw[er];cases neg
         · exact Ev.AO (by decide) (Ev.same rfl)
         · exact Ev.AI rfl (Ev.same rfl)
theorem ACy (k c:Int) (hc:0<=c):mn (mx k (-c)) c=min (max k (-c)) c:=by
 unfold mn mx;split<;>split<;>omega
theorem nT {b k:Int} (h:U b):Ev (λr=>JE.f r b k) (VK b k):=by
 have hP:=Ip h;have a1:=FB b;have a2:=Gw b;unfold VK;by_cases hx:fx b=2047
 · rw[if_pos hx] at hP ⊢
   exact Ev.bind hP (Ev.AO (by decide) (Ev.AZ (Ny h) (Ev.same rfl)))
 · rw[if_neg hx] at hP ⊢
   refine Ev.bind hP (Ev.AI rfl ?_);dsimp only;have a3 : -1074<=pe b/\pe b<=972:=⟨a2.1,a2.2.1⟩;clear a2;rw[ACy k 5000 (by omega),AE (by omega) (by omega)];refine Ev.bind (CR (e:=pe b+min (max k (-5000)) 5000) (fs b) (m:=pm b) (by unfold U;omega)) (Ev.same ?_);rw[M7 (by omega) (by omega)]
def eK (n:Int):Int:=fdiv 4607182418800017408 (fint n)
theorem NB (n:Int):U (eK n):=dr _ _
def Jx:Nat->Int
 | 0=>1
 | n+1=>Jx n*(n+1)
def ACz (r:Int):Nat->Int->Int
 | 0,p=>p
 | i+1,p=>ACz r i (RX (Pc p r) (eK (Jx i)))
theorem AC0 (r:Int) : ∀(i:Nat) {p:Int},U p->U (ACz r i p)
 | 0,_,h=>h
 | i+1,_,h=>AC0 r i (KI (Gi _ _) (NB _))
def ek (x:Int):Int:=(near (Pc x 4609176140021203710)).1
def er (x:Int):Int:=wJ (wJ x (Pc (fint (ek x)) 4604418534311723008)) (Pc (fint (ek x)) 4461442080421002358)
def AC1 (x:Int):Int:=if fk x=4 then gw else if less (fint 710) x=true then Xz else if less x (fint (-746))=true then 0 else VK (ACz (er x) 13 (eK (Jx 13))) (ek x)
def AHv (z:Int):Nat->Int->Int
 | 0,p=>p
 | i+1,p=>AHv z i (RX (Pc p z) (eK (2*((i:Int)+1)+1)))
def ls (f:Int):Int:=fdiv (wJ f 4607182418800017408) (RX 4611686018427387904 (wJ f 4607182418800017408))
def lz (f:Int):Int:=Pc (ls f) (ls f)
def lp (f:Int):Int:=AHv (lz f) 9 (eK 21)
def ly (f:Int):Int:=RX (RX (ls f) (ls f)) (Pc (RX (ls f) (ls f)) (Pc (lp f) (lz f)))
def kH (f k:Int):Int:=if k=0 then ly f else RX (Pc (fint k) 4604418534311723008) (RX (ly f) (Pc (fint k) 4461442080421002358))
def N0 (x:Int):Int × Int:=if less 4609047870845172685 (Rd (pm x) (1-bl (pm x)))=true then(Rd (pm x) (-bl (pm x)),pe x+bl (pm x)) else(Rd (pm x) (1-bl (pm x)),pe x+bl (pm x)-1)
def AC2 (x:Int):Int:=if fk x=0 then KG true Xz else if fk x=4\/fs x=true then gw else if fk x=3 then x else kH (N0 x).1 (N0 x).2
theorem UI:U 4607182418800017408/\U 4611686018427387904/\U 4609047870845172685/\U 4604418534311723008/\U 4461442080421002358/\U 4609176140021203710:=by unfold U;omega
theorem Kg {n:Int} (h0 : -9223372036854775808<=n) (h1:n<=9223372036854775807):Ev (λk=>EC.f k n) (eK n) :=
 Ev.bind (KK h0 h1) (Ev.bind (NA UI.1 (eC n)) (Ev.same rfl))
theorem AFR:Jx 0=1/\Jx 1=1/\Jx 2=2/\Jx 3=6/\Jx 4=24/\Jx 5=120/\Jx 6=720/\Jx 7=5040/\Jx 8=40320/\Jx 9=362880/\Jx 10=3628800/\Jx 11=39916800/\Jx 12=479001600/\Jx 13=6227020800:=by decide
theorem Ph {n:Nat} (h:n<=13):1<=Jx n/\Jx n<=6227020800:=by
 have:=AFR;rcases(show n=0\/n=1\/n=2\/n=3\/n=4\/n=5\/n=6\/n=7\/n=8\/n=9\/n=10\/n=11\/n=12\/n=13 by omega) with h | h | h | h | h | h | h | h | h | h | h | h | h | h<;>subst h<;>omega
theorem kI {m d:Int} (h0:0<m) (h1:m<9007199254740992) (hd:d=0\/d=1):Mk false m (d-bl m)=(Rd m (d-bl m),true):=by
 have b1:bl m<=53:=CA (n:=53) (by have:(2:Int)^53=9007199254740992:=rfl
                                  omega)
 have b2:=Ds h0;have hu:un m (d-bl m)=d-53:=by unfold un;omega
 have:=RZ false (m:=m) (e:=d-bl m) (by omega) (by omega) (by
  rw[hu,show(d-53-(d-bl m)).toNat=0 by omega,AQA,ARV])
 rw[this];rfl
theorem eL {x:Int} (h:U x) (hx:fx x≠2047) (h0:0<pm x):Ev (λk=>Gl.f k x) (N0 x):=by
 have P:=Ip h;rw[if_neg hx] at P;have pr:=FB x;have pe_:=Gw x
 have b1:bl (pm x)<=53:=CA (n:=53) (by have:(2:Int)^53=9007199254740992:=rfl
                                       omega)
 have b2:=Ds h0;have hU:U (pm x):=by unfold U;omega
 have hp:=pe_.2.2.1 hx;refine Ev.bind P (Ev.bind (Fp hU) ?_);simp only[AE (show -9223372036854775808<=1-bl (pm x) by omega) (by omega),AE (show -9223372036854775808<= -bl (pm x) by omega) (by omega),AE (show -9223372036854775808<=pe x+bl (pm x) by omega) (by omega),AE (show -9223372036854775808<=pe x+bl (pm x)-1 by omega) (by omega)];have M1:=Jc false hU (e:=1-bl (pm x)) (by omega) (by omega);have M2:=Jc false hU (e:= -bl (pm x)) (by omega) (by omega);rw[kI h0 pr.2 (.inr rfl)] at M1;rw[show -bl (pm x)=0-bl (pm x) by omega,kI h0 pr.2 (.inl rfl)] at M2;have v1:=nK h0 pr.2 (l:=1-bl (pm x)) (by omega) (by omega);refine Ev.bind M1 (Ev.AZ (K4 UI.2.2.1 v1.2.2.2) ?_);unfold N0;by_cases hl:less 4609047870845172685 (Rd (pm x) (1-bl (pm x)))=true
 · rw[if_pos hl]
   refine Ev.AI hl ?_;rw[show -bl (pm x)=0-bl (pm x) by omega];exact Ev.bind M2 (Ev.same rfl)
 · rw[if_neg hl]
   exact Ev.AO hl (Ev.same rfl)
theorem sK (f:Int):U (ls f):=dr _ _
theorem AJP (f:Int):U (lz f):=Gi _ _
theorem AFS (f:Int):U (ly f):=KI (KI (sK f) (sK f)) (Gi _ _)
theorem VM {a b:Int} (ha:U a):U (wJ a b):=KI ha (AHn b)
theorem nU {f e p:Int} (he0 : -5000<=e) (he1:e<=5000) (hp:U p) (i:Nat) (hi:i<=9) (hq:AHv (lz f) i p=lp f):Ev (λk=>BX.l0 k e (ls f) (lz f) p i) (kH f e):=by
 induction i generalizing p with
 | zero =>
   have hq:p=lp f:=hq;rw[hq];rw[hq] at hp;refine Ev.step (λk=>BX.l0.eq_2 ..) (Ev.AO (by omega) (Ev.bind (Fq (sK f) (sK f)) (Ev.bind (Dj hp (AJP f)) (Ev.bind (Dj (KI (sK f) (sK f)) (Gi _ _)) (Ev.bind (Fq (KI (sK f) (sK f)) (Gi _ _)) ?_)))));unfold kH;by_cases h0:e=0
   · rw[if_pos h0]
     exact Ev.AI h0 (Ev.same rfl)
   · rw[if_neg h0]
     exact Ev.AO h0 (Ev.bind (KK (by omega) (by omega)) (Ev.bind (Dj (eC e) UI.2.2.2.1) (Ev.bind (Dj (eC e) UI.2.2.2.2.1) (Ev.bind (Fq (AFS f) (Gi _ _)) (Ev.bind (Fq (Gi _ _) (KI (AFS f) (Gi _ _))) (Ev.same rfl))))))
 | succ i ih =>
   have e1:wrap64 (wrap64 (2*((i+1:Nat):Int))+1)=2*((i:Int)+1)+1:=(by rw[AE (n:=2*((i+1:Nat):Int)) (by omega) (by omega),AE (by omega) (by omega)];omega);have e2:wrap64 (((i+1:Nat):Int)-1)=(i:Int):=(by rw[AE (by omega) (by omega)];omega);refine Ev.step (λk=>BX.l0.eq_2 ..) (Ev.AI (by omega) ?_);simp only[e1,e2];exact Ev.bind (Dj hp (AJP f)) (Ev.bind (Kg (by omega) (by omega)) (Ev.bind (Fq (Gi _ _) (NB _)) (ih (KI (Gi _ _) (NB _)) (by omega) hq)))
theorem Wm {x:Int} (h:U x):Ev (λk=>BX.f k x) (AC2 x):=by
 refine Ev.AZ (CJ h) ?_;unfold AC2;by_cases h0:fk x=0
 · rw[if_pos h0]
   exact Ev.AI h0 (Ev.AZ (GU true) (Ev.same rfl))
 rw[if_neg h0];refine Ev.AO h0 ?_;have j0 : ∀b:Bool,b=decide (fk x=4\/fs x=true)->Ev (λk=>BX.j0 k x (fk x) b) (if fk x=4\/fs x=true then gw else if fk x=3 then x else kH (N0 x).1 (N0 x).2):=λb hb=>by
  refine Ev.step (λk=>BX.j0.eq_2 ..) ?_;by_cases h4:fk x=4\/fs x=true
  · rw[if_pos h4]
    exact Ev.AI (by rw[hb];exact decide_eq_true h4) (Ev.AZ En (Ev.same rfl))
  · rw[if_neg h4]
    refine Ev.AO (by rw[hb,decide_eq_false h4];decide) ?_;by_cases h3:fk x=3
    · rw[if_pos h3]
      exact Ev.AI h3 (Ev.same rfl)
    · rw[if_neg h3]
      have hx:=LS (λk=>h4 (.inl k)) h3;have hp:0<pm x:=by
       have:=(Wb x).2.2.2.1;have:=FB x;rcases(show pm x=0\/0<pm x by omega) with k | k
       · exact absurd ((Wb x).2.2.2.1.2 ⟨hx,k⟩) h0
       · exact k
      have pr:=FB x;have pe_:=Gw x;have hpe:=pe_.2.2.1 hx
      have b1:bl (pm x)<=53:=CA (n:=53) (by have:(2:Int)^53=9007199254740992:=rfl
                                            omega)
      have b2:=Ds hp;have v1:=nK hp pr.2 (l:=1-bl (pm x)) (by omega) (by omega);have v2:=nK hp pr.2 (l:= -bl (pm x)) (by omega) (by omega);have hU:U (N0 x).1/\ -5000<=(N0 x).2/\(N0 x).2<=5000:=by
       unfold N0;split
       · exact⟨v2.2.2.2,by dsimp only;omega,by dsimp only;omega⟩
       · exact⟨v1.2.2.2,by dsimp only;omega,by dsimp only;omega⟩
      refine Ev.AO h3 (Ev.bind (eL h hx hp) (Ev.bind (MJ hU.1 UI.1) (Ev.bind (Fq UI.2.1 (VM hU.1)) (Ev.bind (NA (VM hU.1) (KI UI.2.1 (VM hU.1))) (Ev.bind (Dj (dr _ _) (dr _ _)) (Ev.bind (Kg (by omega) (by omega)) ?_))))));exact nU hU.2.1 hU.2.2 (NB _) 9 (by omega) rfl
 by_cases h4:fk x=4
 · exact Ev.AI h4 (j0 true (by rw[decide_eq_true (.inl h4)]))
 · refine Ev.AO h4 (Ev.AZ (Dh h) (j0 _ ?_))
   cases hs:fs x
   · rw[decide_eq_false (by rintro(k | k);exact h4 k;cases k)]
   · rw[decide_eq_true (.inr rfl)]
theorem wS {b:Int} (h:U b) : -9223372036854775808<=(near b).1/\(near b).1<=9223372036854775807:=by
 unfold near;split
 · exact⟨by decide,by decide⟩
 · rename_i hh
   have p:=FB b;have key:0<=ru (pm b) (pe b) 0/\ru (pm b) (pe b) 0<=9223372036854775807:=by
    have l1:=HN (pm b);have hb:bl (pm b)+pe b<=62:=by
     rcases AQf 62 (bl (pm b)+pe b) with k | k
     · exact absurd (.inr k) hh
     · exact k
    have b0:=CM (pm b);by_cases h2:0<=pe b
    · have hp:=pow_pos (pe b).toNat
      have h3:=AQw l1 hp;rw[<-AQK] at h3;have h4:=A7 (a:=(bl (pm b)).toNat+(pe b).toNat) (b:=62) (by omega);have e62:(2:Int)^62=4611686018427387904:=rfl;have hge:0<=pm b*2^(pe b).toNat:=AP7 p.1 (APs hp);unfold ru;rw[show(0-pe b).toNat=0 by omega,MH,show pe b-0=pe b by omega];omega
    · unfold ru
      rw[show(pe b-0).toNat=0 by omega,AQA,AQQ];have r:=AC3 (pm b) (0-pe b).toNat;have q:=AQv (2^(0-pe b).toNat) p.1;have q2:=AQC p.1 (APs (pow_pos (0-pe b).toNat));omega
   split
   · exact⟨by dsimp only;omega,by dsimp only;omega⟩
   · exact⟨by dsimp only;omega,by dsimp only;omega⟩
theorem AMA {x:Int} (h:U x):U (er x):=VM (VM h)
def sL (i:Nat):List Int:=(List.range 14).map λj=>if j<=i then Jx j else 0
theorem Wn (i:Nat):(sL i).length=14:=by simp[sL]
theorem AC4 : ∀i:Fin 13,(sL i.1).set (i.1+1) (Jx (i.1+1))=sL (i.1+1):=by decide
theorem AC5 : ∀i:Fin 14,∀j:Fin 14,j.1<=i.1->(sL i.1).getD j.1 0=Jx j.1:=by decide
theorem nV {i j:Nat} (hi:i<14) (hj:j<=i):rd (sL i) (j:Int)=Jx j:=AC5 ⟨i,hi⟩ ⟨j,by omega⟩ hj
theorem iP {r p e:Int} (hr:U r) (hp:U p) (i:Nat) (hi:i<=13):Ev (λk=>BR.l1 k e r (sL 13) p ((i:Int)-1)) (VK (ACz r i p) e):=by
 induction i generalizing p with
 | zero=>exact Ev.step (λk=>BR.l1.eq_2 ..) (Ev.AO (by omega) (Ev.bind (nT hp) (Ev.same rfl)))
 | succ i ih =>
   have e0:((i+1:Nat):Int)-1=(i:Int):=(by omega);have e2:wrap64 ((i:Int)-1)=(i:Int)-1:=AE (by omega) (by omega);have f1:=Ph (n:=i) (by omega);rw[e0];refine Ev.step (λk=>BR.l1.eq_2 ..) (Ev.AI (by omega) (Ev.bind (Dj hp hr) (Ev.AI (by omega) (Ev.AI (by omega) (Ev.AI (by rw[Wn];omega) ?_)))));rw[nV (by omega) (by omega),e2];exact Ev.bind (Kg (by omega) (by omega)) (Ev.bind (Fq (Gi _ _) (NB _)) (ih (KI (Gi _ _) (NB _)) (by omega)))
theorem iQ {r e:Int} (hr:U r) (d:Nat) : ∀i:Nat,i+d=13->Ev (λk=>BR.l0 k e r (sL i) i) (VK (ACz r 13 (eK (Jx 13))) e):=by
 induction d with
 | zero =>
   intro i hi;obtain rfl:i=13:=by omega
   have f1:=Ph (n:=13) (by omega);refine Ev.step (λk=>BR.l0.eq_2 ..) (Ev.AO (by omega) (Ev.AI (by rw[Wn];omega) ?_));rw[show(13:Int)=((13:Nat):Int) from rfl,nV (by omega) (by omega)];exact Ev.bind (Kg (by omega) (by omega)) (iP hr (NB _) 13 (by omega))
 | succ d ih =>
   intro i hi;have f1:=Ph (n:=i) (by omega);have f2:=Ph (n:=i+1) (by omega);have e1:wrap64 ((i:Int)+1)=((i+1:Nat):Int):=(by rw[AE (by omega) (by omega)];rfl);have e2:wrap64 (Jx i*((i+1:Nat):Int))=Jx (i+1):=by
    have:Jx i*((i+1:Nat):Int)=Jx (i+1):=rfl;rw[this,AE (by omega) (by omega)]
   refine Ev.step (λk=>BR.l0.eq_2 ..) (Ev.AI (by omega) ?_);rw[nV (by omega) (by omega)];simp only[e1,e2];refine Ev.AI (by omega) (Ev.AI (by omega) (Ev.AI (by rw[Wn];omega) (Ev.AI (by omega) (Ev.AI (by omega) (Ev.AI (by rw[Wn];omega) ?_)))));rw[show(((i+1:Nat):Int)).toNat=i+1 by omega,AC4 ⟨i,by omega⟩];exact ih (i+1) (by omega)
theorem AC6:fint 710=4649456441864749056:=by decide
theorem AC7:fint (-746)=13873145138068324352:=by decide
theorem Wo {x:Int} (h:U x):Ev (λk=>BR.f k x) (AC1 x):=by
 refine Ev.AZ (CJ h) ?_;unfold AC1;by_cases h4:fk x=4
 · rw[if_pos h4]
   exact Ev.AI h4 (Ev.AZ En (Ev.same rfl))
 rw[if_neg h4];have u1:U 4649456441864749056:=by unfold U;omega
 have u2:U 13873145138068324352:=by unfold U;omega
 rw[AC6,AC7];refine Ev.AO h4 (Ev.AZ (K4 u1 h) ?_);by_cases h1:less 4649456441864749056 x=true
 · rw[if_pos h1]
   exact Ev.AI h1 (Ev.AZ (GU false) (Ev.same rfl))
 rw[if_neg h1];refine Ev.AO h1 (Ev.AZ (K4 h u2) ?_);by_cases h2:less x 13873145138068324352=true
 · rw[if_pos h2]
   exact Ev.AI h2 (Ev.same rfl)
 rw[if_neg h2];have nr:=wS (Gi x 4609176140021203710);refine Ev.AO h2 (Ev.bind (Dj h UI.2.2.2.2.2) (Ev.bind (sJ (Gi _ _)) (Ev.bind (KK nr.1 nr.2) (Ev.bind (Dj (eC _) UI.2.2.2.1) (Ev.bind (MJ h (Gi _ _)) (Ev.bind (Dj (eC _) UI.2.2.2.2.1) (Ev.bind (MJ (VM h) (Gi _ _)) ?_)))))));exact iQ (AMA h) 13 0 (by omega)
section
abbrev R3:=Bool × List Int × List Int
def en (x:Rat):R3:=Rq x.num x.den
theorem den_pos (x:Rat):(0:Int)<x.den:=by have:=x.den_nz;omega
theorem UJ (S:Int) {D:Int} (hD:0<D):(Rat.divInt S D).num*D=S*(Rat.divInt S D).den:=by
 have e:=Rat.num_divInt_den (Rat.divInt S D);exact(Rat.divInt_eq_divInt_iff (by have:=den_pos (Rat.divInt S D);omega) (by omega)).1 e
theorem OX (S:Int) {D:Int} (hD:0<D):en (Rat.divInt S D)=Rq S D:=dh (den_pos _) hD (UJ S hD)
theorem Fe (x:Rat):Rat.divInt x.num x.den=x:=Rat.num_divInt_den x
def Bd (n:Int) (x:Rat):Prop:=Fb n x.num x.den
theorem Bd.mono {n m:Int} {x:Rat} (h:Bd n x) (hm:n<=m):Bd m x:=⟨h.1,ARn h.2.1 hm,ARn h.2.2 hm⟩
theorem Ic {n:Int} {x:Rat} (h:Bd n x) (hn:n<=14000):Fit x.num x.den:=ACf h hn
theorem VN (x:Rat):gc (ab x.num) x.den=1:=by
 have h:=x.reduced;unfold gc;have e:(ab x.num).toNat=x.num.natAbs:=by unfold ab;split<;>omega
 rw[e,APr]
 exact_mod_cast h
theorem TR {n S D:Int} (h:Fb n S D):Bd n (Rat.divInt S D):=by
 have c:=UJ S h.1;obtain⟨N,E,h1,h2,h3,h4,h5,h6,h7,h8⟩:=TN S h.1;have hx:=den_pos (Rat.divInt S D);generalize Rat.divInt S D=x at *;have g:=VN x;have e:Rq x.num x.den=Rq S D:=dh hx h.1 c;obtain⟨N',E',k1,k2,k3,k4,k5,k6,k7,k8⟩:=TN x.num hx;rw[e,h1] at k1;simp only[ARo] at k1;obtain⟨_,e2,e3⟩:=k1;have e2:=nW h2 k2 e2;have e3:=nW (APs h3) (APs k3) e3;obtain⟨a1,a2⟩:ab x.num=N'/\(x.den:Int)=E':=by
  by_cases hz:x.num=0
  · have:(x.den:Int)=1:=by
     rw[hz,show ab 0=0 from rfl,I3,I5 (by omega)] at g;exact g
    have n0:N'=0:=k7.2 hz;refine⟨by rw[hz,n0];rfl,by omega⟩
  · have u1:Rq x.num x.den=(decide (x.num<0),dg (ab x.num/gc (ab x.num) x.den),dg ((x.den:Int)/gc (ab x.num) x.den)):=by unfold Rq;rw[if_neg hz]
    rw[g,AQs,AQs,e,h1] at u1;simp only[ARo] at u1;exact⟨by rw[<-e2];exact(nW h2 (DG _) u1.2.1).symm,by rw[<-e3];exact(nW (APs h3) (APs hx) u1.2.2).symm⟩
 have b1:=B9 h4;have b2:=B9 h5;have hh:=h.2;exact⟨hx,by rw[a1,<-e2];omega,by rw[a2,<-e3];omega⟩
theorem eN (x y:Rat):x+y=Rat.divInt (x.num*y.den+y.num*x.den) (x.den*y.den):=by
 conv=>lhs;rw[<-Fe x,<-Fe y]
 exact Rat.divInt_add_divInt _ _ (by have:=den_pos x;omega) (by have:=den_pos y;omega)
theorem wT (x y:Rat):x-y=Rat.divInt (x.num*y.den-y.num*x.den) (x.den*y.den):=by
 conv=>lhs;rw[<-Fe x,<-Fe y]
 exact Rat.divInt_sub_divInt _ _ (by have:=den_pos x;omega) (by have:=den_pos y;omega)
theorem eO (x y:Rat):x*y=Rat.divInt (x.num*y.num) (x.den*y.den):=by
 conv=>lhs;rw[<-Fe x,<-Fe y]
 exact ATI ..
theorem Rk (x y:Rat):(0:Int)<(x.den:Int)*y.den:=AQ0 (den_pos x) (den_pos y)
theorem OY {x:Rat} :x.num=0↔x=0:=Rat.num_eq_zero
theorem AHw {x:Int} (h:x≠0):0<ab x:=by have:=DG x;have:= @PY x;omega
theorem inv_divInt (y:Rat) (hy:y≠0):y⁻¹ =Rat.divInt (IS y.num y.den) (ab y.num):=by
 conv=>lhs;rw[<-Fe y]
 rw[Rat.inv_divInt];have hz:y.num≠0:=λk=>hy (OY.1 k)
 unfold IS GQ ab;by_cases hs:y.num<0
 · rw[decide_eq_true hs,if_pos rfl,if_pos hs,Rat.neg_divInt_neg]
 · rw[decide_eq_false hs,if_neg (by decide),if_neg hs]
theorem eR (x y:Rat) (hy:y≠0):x/y=Rat.divInt (x.num*IS y.num y.den) (x.den*ab y.num):=by
 rw[Rat.div_def,inv_divInt y hy]
 conv=>lhs;rw[<-Fe x]
 exact ATI ..
theorem wU {n:Int} {x:Rat} (h:Bd n x):Bd n (-x):=ACg h
theorem wV {n m:Int} {x y:Rat} (h:Bd n x) (h':Bd m y):Bd (n+m+1) (x+y):=by
 rw[eN];exact TR (ACh h h')
theorem AC8 {n m:Int} {x y:Rat} (h:Bd n x) (h':Bd m y):Bd (n+m+1) (x-y):=by
 rw[Rat.sub_eq_add_neg];exact wV h (wU h')
theorem AC9 {n m:Int} {x y:Rat} (h:Bd n x) (h':Bd m y):Bd (n+m) (x*y):=by
 rw[eO];exact TR (ACi h h')
theorem wW {n m:Int} {x y:Rat} (h:Bd n x) (h':Bd m y) (hy:y≠0):Bd (n+m) (x/y):=by
 rw[eR x y hy];exact TR (ACi h (ACj h' (λk=>hy (OY.1 k))))
variable {x y:Rat} {n m:Int}
theorem kJ (hx:Bd n x) (hn:n<=14000):Ev (λk=>Iz.f k (en x).1 (en x).2.1 (en x).2.2) (en (-x)):=jw (Ic hx hn)
theorem AHx (x y:Rat):Rq (x.num*y.den+y.num*x.den) (x.den*y.den)=en (x+y):=by rw[eN,OX _ (Rk x y)]
theorem AHy (x y:Rat):Rq (x.num*y.den-y.num*x.den) (x.den*y.den)=en (x-y):=by rw[wT,OX _ (Rk x y)]
theorem AHz (x y:Rat):Rq (x.num*y.num) (x.den*y.den)=en (x*y):=by rw[eO,OX _ (Rk x y)]
theorem ADA (x y:Rat) (hy:y≠0):Rq (x.num*IS y.num y.den) (x.den*ab y.num)=en (x/y):=by
 rw[eR x y hy,OX];exact AQ0 (den_pos x) (AHw λk=>hy (OY.1 k))
theorem YO (hx:Bd n x) (hy:Bd m y) (hn:n<=14000) (hm:m<=14000):Ev (λk=>IF.f k (en x).1 (en x).2.1 (en x).2.2 (en y).1 (en y).2.1 (en y).2.2) (en (x+y)):=Ev.dc (jy (Ic hx hn) (Ic hy hm)) (AHx x y)
theorem kK (hx:Bd n x) (hy:Bd m y) (hn:n<=14000) (hm:m<=14000):Ev (λk=>I0.f k (en x).1 (en x).2.1 (en x).2.2 (en y).1 (en y).2.1 (en y).2.2) (en (x-y)):=Ev.dc (jx (Ic hx hn) (Ic hy hm)) (AHy x y)
theorem kL (hx:Bd n x) (hy:Bd m y) (hn:n<=14000) (hm:m<=14000):Ev (λk=>IE.f k (en x).1 (en x).2.1 (en x).2.2 (en y).1 (en y).2.1 (en y).2.2) (en (x*y)):=Ev.dc (jz (Ic hx hn) (Ic hy hm)) (AHz x y)
def qo (x y:Rat):Bool × List Int × List Int × Int:=if y=0 then(false,[],[],4) else((en (x/y)).1,(en (x/y)).2.1,(en (x/y)).2.2,0)
theorem TU (hx:Bd n x) (hy:Bd m y) (hn:n<=14000) (hm:m<=14000):Ev (λk=>I4.f k (en x).1 (en x).2.1 (en x).2.2 (en y).1 (en y).2.1 (en y).2.2) (qo x y):=by
 refine Ev.dc (AAl (Ic hx hn) (Ic hy hm)) ?_;unfold qo;by_cases hz:y=0
 · rw[if_pos (OY.2 hz),if_pos hz]
 · rw[if_neg (λk=>hz (OY.1 k)),if_neg hz,ADA x y hz]
theorem sM (hx:Bd n x) (hy:Bd m y) (hn:n<=14000) (hm:m<=14000) (hz:y≠0):Ev (λk=>Kw.f k (en x).1 (en x).2.1 (en x).2.2 (en y).1 (en y).2.1 (en y).2.2) (en (x/y)):=Ev.dc (r5 (Ic hx hn) (Ic hy hm) (λk=>hz (OY.1 k))) (ADA x y hz)
def rb (x:Rat):Int:=mx (bl (ab x.num)) (bl x.den)
theorem K5 (x:Rat):en x=(decide (x.num<0),dg (ab x.num),dg x.den):=by
 unfold en Rq;by_cases hz:x.num=0
 · have g:=VN x
   rw[hz,show ab 0=0 from rfl,I3,I5 (by have:=den_pos x;omega)] at g;rw[if_pos hz,hz,g,show ab 0=0 from rfl,Gj,YP];rfl
 · rw[if_neg hz,VN,AQs,AQs]
theorem AJQ {n:Int} (h:rb x<=n):Bd n x:=by
 unfold rb mx at h;exact⟨den_pos x,by split at h<;>omega,by split at h<;>omega⟩
theorem nX (hx:Bd n x) (hn:n<=60000000):Ev (λk=>JF.f k (en x).1 (en x).2.1 (en x).2.2) (rb x):=by
 have hh:=hx.2;have hd:=den_pos x;have h0:=DG x.num;have A:=E8 (l:=dg (ab x.num)) (BO (by omega));have B:=E8 (l:=dg x.den) (BO (by omega));rw[AY h0] at A;rw[AY (APs hd)] at B;rw[K5];exact Ev.bind A (Ev.bind B (Ev.same rfl))
def de (q:R3):Rat:=Rat.divInt (GQ q.1 (nv q.2.1)) (nv q.2.2)
def RV (q:R3):Prop:=RR q.1 q.2.1 q.2.2
theorem ADB {q:R3} (ha:Ws q.2.1) (hb:Ws q.2.2) (h:RV q):en (de q)=q:=by
 unfold de;rw[OX _ (nY hb h)];exact AJR ha hb h
theorem eS (x:Rat):de (en x)=x:=by
 rw[K5];unfold de;rw[AY (DG _),AY (APs (den_pos x))];have:GQ (decide (x.num<0)) (ab x.num)=x.num:=by
  unfold GQ ab;by_cases h:x.num<0
  · rw[if_pos h,if_pos (decide_eq_true h)];omega
  · rw[if_neg h,if_neg (by rw[decide_eq_false h];decide)]
 rw[this,Fe]
theorem AGJ {q:R3} (ha:Ws q.2.1) (hb:Ws q.2.2) (h:RV q) {n:Nat} (la:q.2.1.length<=n) (lb:q.2.2.length<=n):Bd (64*n) (de q):=by
 refine TR ⟨nY hb h, ?_, ?_⟩
 · have:=E9 ha
   have n0:=AN ha;have e:ab (GQ q.1 (nv q.2.1))=nv q.2.1:=(by unfold ab GQ;split<;>split<;>omega);rw[e];omega
 · have:=E9 hb
   omega
end
abbrev I6:=Int × Int × Int × Bool × List Int × List Int
def gx (op:Int):Int:=if op=1\/op=2 then 0 else if op=3\/(8<=op/\op<=10) then 1 else if 4<=op/\op<=7 then 2 else -1
theorem YQ (op:Int):(op=1/\gx op=0)\/(op=2/\gx op=0)\/(op=3/\gx op=1)\/(op=4/\gx op=2)\/(op=5/\gx op=2)\/(op=6/\gx op=2)\/(op=7/\gx op=2)\/(op=8/\gx op=1)\/(op=9/\gx op=1)\/(op=10/\gx op=1)\/((op<1\/10<op)/\gx op= -1):=by
 by_cases h1:op=1
 · subst h1;exact .inl ⟨rfl,by decide⟩
 by_cases h2:op=2
 · subst h2;exact .inr (.inl ⟨rfl,by decide⟩)
 by_cases h3:op=3
 · subst h3;exact .inr (.inr (.inl ⟨rfl,by decide⟩))
 by_cases h4:op=4
 · subst h4;exact .inr (.inr (.inr (.inl ⟨rfl,by decide⟩)))
 by_cases h5:op=5
 · subst h5;exact .inr (.inr (.inr (.inr (.inl ⟨rfl,by decide⟩))))
 by_cases h6:op=6
 · subst h6;exact .inr (.inr (.inr (.inr (.inr (.inl ⟨rfl,by decide⟩)))))
 by_cases h7:op=7
 · subst h7;exact .inr (.inr (.inr (.inr (.inr (.inr (.inl ⟨rfl,by decide⟩))))))
 by_cases h8:op=8
 · subst h8;exact .inr (.inr (.inr (.inr (.inr (.inr (.inr (.inl ⟨rfl,by decide⟩)))))))
 by_cases h9:op=9
 · subst h9;exact .inr (.inr (.inr (.inr (.inr (.inr (.inr (.inr (.inl ⟨rfl,by decide⟩))))))))
 by_cases h10:op=10
 · subst h10;exact .inr (.inr (.inr (.inr (.inr (.inr (.inr (.inr (.inr (.inl ⟨rfl,by decide⟩)))))))))
 have e:gx op= -1:=by
  unfold gx;rw[if_neg (by omega),if_neg (by omega),if_neg (by omega)]
 exact .inr (.inr (.inr (.inr (.inr (.inr (.inr (.inr (.inr (.inr (⟨by omega,e⟩))))))))))
theorem nZ (op:Int):Ev (λk=>Ch.f k op) (gx op):=by
 refine⟨1,λn hn=> ?_⟩;obtain⟨m,rfl⟩ : ∃m,n=m+1:=⟨n-1,by omega⟩;rcases YQ op with⟨rfl,h⟩ | ⟨rfl,h⟩ | ⟨rfl,h⟩ | ⟨rfl,h⟩ | ⟨rfl,h⟩ | ⟨rfl,h⟩ | ⟨rfl,h⟩ | ⟨rfl,h⟩ | ⟨rfl,h⟩ | ⟨rfl,h⟩ | ⟨h1,h⟩
 case inr.inr.inr.inr.inr.inr.inr.inr.inr.inr =>
  show Ch.f (m+1) op=some (gx op);rw[h];unfold Ch.f;rw[if_neg (by omega),if_neg (by omega),if_neg (by omega),if_neg (by omega),if_neg (by omega),if_neg (by omega),if_neg (by omega),if_neg (by omega),if_neg (by omega),if_neg (by omega)]
 all_goals simp[h,Ch.f,Ch.j4]
def sN (x:I6):Prop:=x.2.2.2.1=false/\x.2.2.2.2.1= []/\x.2.2.2.2.2= []
def MK (x:I6) (n:Int):Prop:=(x.1=2/\x.2.1=0/\x.2.2.1=0/\RV x.2.2.2)\/(x.1=1/\sN x/\0<=x.2.1/\x.2.1<65536/\x.2.2.1=0)\/(gx x.1=1/\sN x/\0<=x.2.1/\x.2.1<n/\x.2.2.1=0)\/(gx x.1=2/\sN x/\0<=x.2.1/\x.2.1<n/\0<=x.2.2.1/\x.2.2.1<n)
def SmI (x:I6):Prop:=Wl x.2.2.2.2.1/\Wl x.2.2.2.2.2/\x.2.2.2.2.1.length<=1000/\x.2.2.2.2.2.length<=1000
theorem sO (x:I6) : ∃r,G0.f x.2.2.2.1 x.2.2.2.2.1 x.2.2.2.2.2=some r/\(r=true↔sN x):=by
 obtain⟨op,a,b,s,p,q⟩:=x;unfold G0.f sN;cases s
 · cases p
   · cases q
     · exact⟨_,rfl,by simp⟩
     · refine⟨_,rfl, ?_⟩
       simp;omega
   · refine⟨false, ?_,by simp⟩
     rw[if_neg Bool.false_ne_true,if_neg (by simp only[AQW];omega)]
 · exact⟨_,rfl,by simp⟩
theorem sP {x:I6} (hx:SmI x) (n:Int) : ∃r,Ev (λk=>IG.f k x.1 x.2.1 x.2.2.1 x.2.2.2.1 x.2.2.2.2.1 x.2.2.2.2.2 n) r/\(r=true↔MK x n):=by
 obtain⟨r1,h1,g1⟩:=sO x;obtain⟨r2,h2,g2⟩:=Y9 x.2.2.2.1 hx.1 hx.2.1 hx.2.2.1 hx.2.2.2;have g2:r2=true↔RV x.2.2.2:=g2;have A:=nZ x.1;unfold MK;rw[<-g1,<-g2];clear g1 g2 hx;obtain⟨op,a,b,s,p,q⟩:=x;dsimp only at *;have ac:=YQ op;generalize gx op=y at *;obtain⟨K1,A⟩:=A;obtain⟨K2,h2⟩:=h2;have A : ∀k,K1<=k->Ch.f k op=some y:=A;have h2 : ∀k,K2<=k->GK.f k s p q=some r2:=h2;have E : ∀k,K1+K2<=k->IG.f k op a b s p q n=some (decide ((op=2/\a=0/\b=0/\r2=true)\/(op=1/\r1=true/\0<=a/\a<65536/\b=0)\/(y=1/\r1=true/\0<=a/\a<n/\b=0)\/(y=2/\r1=true/\0<=a/\a<n/\0<=b/\b<n))):=by
  intro k hk;unfold IG.f;rw[A k (by omega),h1];dsimp only[Option.bind];rw[h2 k (by omega)];dsimp only;cases r1<;>cases r2<;>simp only[ARg,and_false,false_and,or_false,false_or,and_true,true_and]<;>(repeat' split)<;>first | rfl | (apply congrArg some;symm;first | (rw[decide_eq_true_iff];omega) | (rw[decide_eq_false_iff_not];omega))
 exact⟨_,⟨K1+K2,E⟩,decide_eq_true_iff⟩
def zI:I6:=(0,0,0,false,[],[])
theorem zM (l:List I6) (i:Nat):Ay l (i:Int)=l.getD i zI:=by
 show l.getD ((i:Int)).toNat zI=_;rw[APr]
theorem Cp {α:Type} {l:List α} {d:α} {i:Nat} (h:i<l.length):l.getD i d=l[i]:=by
 rw[APt,AP4 h];rfl
def AAq (l:List I6):Prop:= ∀i:Nat,i<l.length->MK (l.getD i zI) i
theorem eT {P:Nat->Prop} {n i:Nat} (h:i<n):(∀j,i<=j->j<n->P j)↔P i/\ ∀j,i+1<=j->j<n->P j :=
 ⟨λk=>⟨k i (by omega) h,λj h1 h2=>k j (by omega) h2⟩,λk j h1 h2=>by
   rcases(show j=i\/i+1<=j by omega) with rfl | h3
   · exact k.1
   · exact k.2 j h3 h2⟩
theorem ng {l:List I6} (hl:l.length<=65536) (hs : ∀x∈l,SmI x) (d:Nat) : ∀i:Nat,i+d=l.length-> ∃r,Ev (λk=>Ci.l0 k l (l.length:Int) i) r/\(r=true↔ ∀j:Nat,i<=j->j<l.length->MK (l.getD j zI) j):=by
 induction d with
 | zero =>
   intro i h;refine⟨true,Ev.step (λk=>Ci.l0.eq_2 ..) (Ev.AO (by omega) (Ev.same rfl)), ?_⟩;simp only[true_iff];intro j h1 h2;omega
 | succ d ih =>
   intro i h;obtain⟨r1,h1,g1⟩:=sP (x:=l.getD i zI) (by rw[Cp (by omega)];exact hs _ (AQ5 _)) i;obtain⟨r2,h2,g2⟩:=ih (i+1) (by omega);have ew:wrap64 ((i:Int)+1)=((i+1:Nat):Int):=(by rw[AE (by omega) (by omega)];omega);refine⟨r1&&r2,Ev.step (λk=>Ci.l0.eq_2 ..) (Ev.AI (by omega) (Ev.AI (by omega) (Ev.AI (by omega) ?_))), ?_⟩
   · rw[zM]
     refine Ev.bind h1 ?_;cases r1
     · exact Ev.AO (by decide) (Ev.same rfl)
     · refine Ev.AI rfl ?_
       rw[ew];exact h2
   · rw[APz,g1,g2,eT (show i<l.length by omega)]
theorem Wq {l:List I6} (hl:l.length<=65536) (hs : ∀x∈l,SmI x) : ∃r,Ev (λk=>Ci.f k l) r/\(r=true↔AAq l):=by
 obtain⟨r,h,g⟩:=ng hl hs l.length 0 (by omega);refine⟨r,Ev.AO (by omega) h, ?_⟩;rw[g];exact⟨λk i hi=>k i (by omega) hi,λk i _ hi=>k i hi⟩
def zR:R3:=(false,[],[])
theorem AGK (l:List R3) (i:Nat):CI l (i:Int)=l.getD i zR:=by
 show l.getD ((i:Int)).toNat zR=_;rw[APr]
def SmR (q:R3):Prop:=Ws q.2.1/\Ws q.2.2/\q.2.1.length<=1000/\q.2.2.length<=1000
theorem iR {l:List R3} (hl:l.length<=1000000) (hs : ∀x∈l,SmR x) (d:Nat) : ∀i:Nat,i+d=l.length-> ∃r,Ev (λk=>CV.l0 k l (l.length:Int) i) r/\(r=true↔ ∀j:Nat,i<=j->j<l.length->RV (l.getD j zR)):=by
 induction d with
 | zero =>
   intro i h;refine⟨true,Ev.step (λk=>CV.l0.eq_2 ..) (Ev.AO (by omega) (Ev.same rfl)), ?_⟩;simp only[true_iff];intro j h1 h2;omega
 | succ d ih =>
   intro i h;have sm:SmR (l.getD i zR):=(by rw[Cp (by omega)];exact hs _ (AQ5 _));obtain⟨r1,h1,g1⟩:=Y9 (l.getD i zR).1 ⟨sm.1,by have:=sm.2.2.1;omega⟩ ⟨sm.2.1,by have:=sm.2.2.2;omega⟩ sm.2.2.1 sm.2.2.2;obtain⟨r2,h2,g2⟩:=ih (i+1) (by omega);have ew:wrap64 ((i:Int)+1)=((i+1:Nat):Int):=(by rw[AE (by omega) (by omega)];omega);refine⟨r1&&r2,Ev.step (λk=>CV.l0.eq_2 ..) (Ev.AI (by omega) (Ev.AI (by omega) (Ev.AI (by omega) ?_))), ?_⟩
   · rw[AGK]
     refine Ev.bind h1 ?_;cases r1
     · exact Ev.AO (by decide) (Ev.same rfl)
     · refine Ev.AI rfl ?_
       rw[ew];exact h2
   · rw[APz,g1,g2,eT (show i<l.length by omega)]
     exact Iff.rfl
theorem AFT {l:List R3} :(∀j:Nat,0<=j->j<l.length->RV (l.getD j zR))↔ ∀x∈l,RV x:=by
 constructor
 · intro k x hx
   obtain⟨j,hj,rfl⟩:=ASG hx;rw[<-Cp (d:=zR) hj];exact k j (by omega) hj
 · intro k j _ hj
   rw[Cp hj];exact k _ (AQ5 _)
theorem UK {l:List R3} (hl:l.length<=1000000) (hs : ∀x∈l,SmR x) : ∃r,Ev (λk=>CV.f k l) r/\(r=true↔ ∀x∈l,RV x):=by
 obtain⟨r,h,g⟩:=iR hl hs l.length 0 (by omega);exact⟨r,h,g.trans AFT⟩
def gq (l:List Rat) (i:Int):Rat:=l.getD i.toNat 0
theorem Rl {l:List Rat} {a:Int} (h0:0<=a) (h1:a<l.length):CI (l.map en) a=en (gq l a):=by
 show(l.map en).getD a.toNat zR=en (l.getD a.toNat 0);rw[Cp (by rw[AQi];omega),Cp (by omega),ASB]
def sQ (n:Int) (l:List Rat):Prop:= ∀x∈l,Bd n x
theorem NC {n:Int} {l:List Rat} {a:Int} (h:sQ n l) (h0:0<=a) (h1:a<l.length):Bd n (gq l a):=by
 unfold gq;rw[Cp (by omega)];exact h _ (AQ5 _)
theorem ADC {n:Int} {l:List Rat} {x:Rat} (h:sQ n l) (hx:Bd n x):sQ n (l++ [x]):=by
 intro y hy;rcases AQM.1 hy with k | k
 · exact h y k
 · rw[ARW.1 k];exact hx
theorem sQ.mono {n m:Int} {l:List Rat} (h:sQ n l) (hm:n<=m):sQ m l:=λx hx=>(h x hx).mono hm
theorem AFU (n:Int):sQ n []:=λx hx=>absurd hx (by simp)
def m8 (x:I6):Prop:=Ws x.2.2.2.2.1/\Ws x.2.2.2.2.2/\x.2.2.2.2.1.length<=8/\x.2.2.2.2.2.length<=8
theorem m8.sm {x:I6} (h:m8 x):SmI x:=⟨⟨h.1,by have:=h.2.2.1;omega⟩,⟨h.2.1,by have:=h.2.2.2;omega⟩,by have:=h.2.2.1;omega,by have:=h.2.2.2;omega⟩
def nh (x:I6) (out B3 CG:List Rat) (used:Nat):Int × Rat × Nat :=
 if x.1=1 then(if x.2.1<B3.length then(0,gq B3 x.2.1,used) else(11,0,used))
 else if x.1=2 then(0,de x.2.2.2,used)
 else if x.1=3 then(0,-(gq out x.2.1),used)
 else if x.1=4 then(0,gq out x.2.1+gq out x.2.2.1,used)
 else if x.1=5 then(0,gq out x.2.1-gq out x.2.2.1,used)
 else if x.1=6 then(0,gq out x.2.1*gq out x.2.2.1,used)
 else if x.1=7 then(if gq out x.2.2.1=0 then(4,0,used) else(0,gq out x.2.1/gq out x.2.2.1,used))
 else if used<CG.length then(0,gq CG used,used+1) else(6,0,used)
def wX (B3 CG:List Rat):List I6->Nat->List Rat->Nat->List Rat × Int × Int
 | [],_,out,_=>(out,0,0)
 | x::l,i,out,used =>
   if(nh x out B3 CG used).1=0 then(if rb (nh x out B3 CG used).2.1>4096 then([],i,5) else wX B3 CG l (i+1) (out++ [(nh x out B3 CG used).2.1]) (nh x out B3 CG used).2.2)
   else([],i,(nh x out B3 CG used).1)
theorem Wr {x:I6} {n:Int} (h:MK x n):(x.1=1/\0<=x.2.1/\x.2.1<65536)\/(x.1=2/\RV x.2.2.2/\x.2.1=0/\x.2.2.1=0)\/((x.1=3\/x.1=8\/x.1=9\/x.1=10)/\0<=x.2.1/\x.2.1<n/\x.2.2.1=0)\/((x.1=4\/x.1=5\/x.1=6\/x.1=7)/\0<=x.2.1/\x.2.1<n/\0<=x.2.2.1/\x.2.2.1<n):=by
 have ac:=YQ x.1;rcases h with⟨h1,h2,h3,h4⟩ | ⟨h1,_,h3,h4,h5⟩ | ⟨h1,_,h3,h4,h5⟩ | ⟨h1,_,h3,h4,h5,h6⟩
 · exact .inr (.inl ⟨h1,h4,h2,h3⟩)
 · exact .inl ⟨h1,h3,h4⟩
 · exact .inr (.inr (.inl ⟨by omega,h3,h4,h5⟩))
 · exact .inr (.inr (.inr ⟨by omega,h3,h4,h5,h6⟩))
theorem AH0 {x:I6} {out B3 CG:List Rat} {used:Nat} (hf:MK x out.length) (hx:m8 x) (ho:sQ 4096 out) (hi:sQ 4096 B3) (hF:sQ 4096 CG) (h:(nh x out B3 CG used).1=0):Bd 8193 (nh x out B3 CG used).2.1:=by
 have c:=Wr hf;unfold nh at h ⊢;split at h
 · split at h
   · rw[if_pos ‹_›,if_pos ‹_›]
     exact(NC hi (by omega) (by omega)).mono (by omega)
   · exact absurd h (show¬(11:Int)=0 by decide)
 rw[if_neg ‹_›];split at h
 · rw[if_pos ‹_›]
   have hv:RV x.2.2.2:=by
    rcases c with c | c | c | c
    · omega
    · exact c.2.1
    · omega
    · omega
   exact(AGJ hx.1 hx.2.1 hv hx.2.2.1 hx.2.2.2).mono (by omega)
 rw[if_neg ‹_›];split at h
 · rw[if_pos ‹_›];exact(wU (NC ho (by omega) (by omega))).mono (by omega)
 rw[if_neg ‹_›];split at h
 · rw[if_pos ‹_›];exact(wV (NC ho (by omega) (by omega)) (NC ho (by omega) (by omega))).mono (by omega)
 rw[if_neg ‹_›];split at h
 · rw[if_pos ‹_›];exact(AC8 (NC ho (by omega) (by omega)) (NC ho (by omega) (by omega))).mono (by omega)
 rw[if_neg ‹_›];split at h
 · rw[if_pos ‹_›];exact(AC9 (NC ho (by omega) (by omega)) (NC ho (by omega) (by omega))).mono (by omega)
 rw[if_neg ‹_›];split at h
 · rw[if_pos ‹_›]
   split at h
   · exact absurd h (show¬(4:Int)=0 by decide)
   · rw[if_neg ‹_›];exact(wW (NC ho (by omega) (by omega)) (NC ho (by omega) (by omega)) ‹_›).mono (by omega)
 rw[if_neg ‹_›];split at h
 · rw[if_pos ‹_›];exact(NC hF (by omega) (by omega)).mono (by omega)
 · exact absurd h (show¬(6:Int)=0 by decide)
def ADD (r:Int × Rat × Nat):R3:=if r.1=0 then en r.2.1 else zR
def stO (r:Int × Rat × Nat) (out B3 CG:List Rat):Bool × List Int × List Int × Int × List R3 × List R3 × List R3 × Int:=((ADD r).1,(ADD r).2.1,(ADD r).2.2,r.1,out.map en,B3.map en,CG.map en,(r.2.2:Int))
theorem wY (l:List Rat):((l.map en).length:Int)=l.length:=by rw[AQi]
theorem ni {x:I6} {out B3 CG:List Rat} {used:Nat} (hf:MK x out.length) (hx:m8 x) (ho:sQ 4096 out) (hi:sQ 4096 B3) (hF:sQ 4096 CG) (hl:CG.length<=1000000) :
 Ev (λk=>Du.f k (out.map en) (B3.map en) (CG.map en) used x.1 x.2.1 x.2.2.1 x.2.2.2.1 x.2.2.2.2.1 x.2.2.2.2.2) (stO (nh x out B3 CG used) out B3 CG):=by
 have c:=Wr hf;have lo:=wY out;have li:=wY B3;have lf:=wY CG;obtain⟨op,a,b,q⟩:=x;dsimp only at c ⊢;rcases c with⟨rfl,h0,h1⟩ | ⟨rfl,hv,h0,h1⟩ | ⟨ho3,h0,h1,hb⟩ | ⟨ho2,h0,h1,hb0,gp⟩
 · refine Ev.AI rfl ?_
   by_cases hi2:a<B3.length
   · refine Ev.AO (by omega) (Ev.AI h0 (Ev.AI (by omega) (Ev.same ?_)))
     rw[Rl h0 hi2];have:nh (1,a,b,q) out B3 CG used=(0,gq B3 a,used):=(by unfold nh;rw[if_pos rfl,if_pos hi2]);rw[this];rfl
   · refine Ev.AI (by omega) (Ev.same ?_)
     have:nh (1,a,b,q) out B3 CG used=(11,0,used):=(by unfold nh;rw[if_pos rfl,if_neg hi2]);rw[this];rfl
 · refine Ev.AO (by decide) (Ev.AI rfl (Ev.same ?_))
   have e:en (de q)=q:=ADB hx.1 hx.2.1 hv;show _=some ((en (de q)).1,(en (de q)).2.1,(en (de q)).2.2,_,_,_,_,_);rw[e];rfl
 · rcases ho3 with rfl | ho3
   · refine Ev.AO (by decide) (Ev.AO (by decide) (Ev.AI rfl (Ev.AI h0 (Ev.AI (by omega) ?_))))
     rw[Rl h0 h1];exact Ev.bind (kJ (NC ho h0 h1) (by omega)) (Ev.same rfl)
   · refine Ev.AO (by omega) (Ev.AO (by omega) (Ev.AO (by omega) (Ev.AO (by omega) (Ev.AO (by omega) (Ev.AO (by omega) (Ev.AO (by omega) ?_))))))
     have e:nh (op,a,b,q) out B3 CG used=if used<CG.length then(0,gq CG used,used+1) else(6,0,used):=by
      unfold nh;dsimp only;rw[if_neg (by omega),if_neg (by omega),if_neg (by omega),if_neg (by omega),if_neg (by omega),if_neg (by omega),if_neg (by omega)]
     rw[e];by_cases hu:used<CG.length
     · rw[if_pos hu]
       have ew:wrap64 ((used:Int)+1)=((used+1:Nat):Int):=(by rw[AE (by omega) (by omega)];omega);have ew2:wrap64 (((used+1:Nat):Int)-1)=(used:Int):=(by rw[AE (by omega) (by omega)];omega);have F:B7.f 0 (out.map en) (B3.map en) (CG.map en) used=some ((en (gq CG used)).1,(en (gq CG used)).2.1,(en (gq CG used)).2.2,0,out.map en,B3.map en,CG.map en,((used+1:Nat):Int)):=by
        unfold B7.f;rw[ew,ew2];clear ew ew2;rw[if_neg (by omega),if_pos (by omega),if_pos (by omega),Rl (l:=CG) (a:=(used:Int)) (by omega) (by omega)]
       exact Ev.AZ (x:=B7.f 0 (out.map en) (B3.map en) (CG.map en) used) F (Ev.same rfl)
     · rw[if_neg hu]
       have F:B7.f 0 (out.map en) (B3.map en) (CG.map en) used=some (false,[],[],6,out.map en,B3.map en,CG.map en,(used:Int)):=by
        unfold B7.f;rw[if_pos (by omega)]
       exact Ev.AZ (x:=B7.f 0 (out.map en) (B3.map en) (CG.map en) used) F (Ev.same rfl)
 · have ba:=NC ho h0 h1
   have bb:=NC ho hb0 gp;rcases ho2 with rfl | rfl | rfl | rfl
   · refine Ev.AO (by decide) (Ev.AO (by decide) (Ev.AO (by decide) (Ev.AI rfl (Ev.AI h0 (Ev.AI (by omega) (Ev.AI hb0 (Ev.AI (by omega) ?_)))))))
     rw[Rl h0 h1,Rl hb0 gp];exact Ev.bind (YO ba bb (by omega) (by omega)) (Ev.same rfl)
   · refine Ev.AO (by decide) (Ev.AO (by decide) (Ev.AO (by decide) (Ev.AO (by decide) (Ev.AI rfl (Ev.AI h0 (Ev.AI (by omega) (Ev.AI hb0 (Ev.AI (by omega) ?_))))))))
     rw[Rl h0 h1,Rl hb0 gp];exact Ev.bind (kK ba bb (by omega) (by omega)) (Ev.same rfl)
   · refine Ev.AO (by decide) (Ev.AO (by decide) (Ev.AO (by decide) (Ev.AO (by decide) (Ev.AO (by decide) (Ev.AI rfl (Ev.AI h0 (Ev.AI (by omega) (Ev.AI hb0 (Ev.AI (by omega) ?_)))))))))
     rw[Rl h0 h1,Rl hb0 gp];exact Ev.bind (kL ba bb (by omega) (by omega)) (Ev.same rfl)
   · refine Ev.AO (by decide) (Ev.AO (by decide) (Ev.AO (by decide) (Ev.AO (by decide) (Ev.AO (by decide) (Ev.AO (by decide) (Ev.AI rfl (Ev.AI h0 (Ev.AI (by omega) (Ev.AI hb0 (Ev.AI (by omega) ?_))))))))))
     rw[Rl h0 h1,Rl hb0 gp];refine Ev.bind (TU ba bb (by omega) (by omega)) (Ev.same ?_);have e:nh (7,a,b,q) out B3 CG used=if gq out b=0 then(4,0,used) else(0,gq out a/gq out b,used):=rfl
     rw[e];unfold qo;by_cases hz:gq out b=0
     · rw[if_pos hz,if_pos hz];rfl
     · rw[if_neg hz,if_neg hz];rfl
def exO (r:List Rat × Int × Int):List R3 × Int × Int:=(r.1.map en,r.2.1,r.2.2)
theorem bQ {l:List I6} {i:Nat} (h:i<l.length):l.drop i=l.getD i zI::l.drop (i+1):=by
 rw[Cp h];exact AR7 h
theorem rz (l:List Rat) (x:Rat):l.map en++ [en x]=(l++ [x]).map en:=by rw[AQu];rfl
theorem wZ {n:Int} {x:Rat} (h:Bd n x) (hn:n<=60000):(en x).2.1.length<=1000/\(en x).2.2.length<=1000:=by
 rw[K5];have a:=AQ (ab x.num);have b:=AQ (x.den:Int);have:=h.2;dsimp only;omega
theorem ADE {n:Int} {x:Rat} (h:Bd n x) (hn:n<=60000):Ff.f (en x).1 (en x).2.1 (en x).2.2=some (en x):=by
 have:=wZ h hn;unfold Ff.f;show(if([]:List Int).length+(en x).2.1.length<17592186044416 then(if([]:List Int).length+(en x).2.2.length<17592186044416 then some ((en x).1,[]++(en x).2.1,[]++(en x).2.2) else none) else none)=_;rw[if_pos (by simp only[ARy];omega),if_pos (by simp only[ARy];omega)];rfl
theorem ADF {l:List I6} {B3 CG:List Rat} (hf:AAq l) (hs : ∀x∈l,m8 x) (hl:l.length<=1000000) (hi:sQ 4096 B3) (hF:sQ 4096 CG) (hlf:CG.length<=1000000) (d:Nat) : ∀(i:Nat) (out:List Rat) (used:Nat),i+d=l.length->out.length=i->sQ 4096 out ->
 Ev (λk=>Ak.l0 k l (l.length:Int) i (out.map en) (B3.map en) (CG.map en) used) (exO (wX B3 CG (l.drop i) i out used)):=by
 induction d with
 | zero =>
   intro i out used h1 h2 h3;rw[ARc (by omega)];exact Ev.step (λk=>Ak.l0.eq_2 ..) (Ev.AO (by omega) (Ev.same rfl))
 | succ d ih =>
   intro i out used h1 h2 h3;rw[bQ (by omega)];have ew:wrap64 ((i:Int)+1)=((i+1:Nat):Int):=(by rw[AE (by omega) (by omega)];omega);have fx:MK (l.getD i zI) out.length:=(by rw[h2];exact hf i (by omega));have sx:m8 (l.getD i zI):=(by rw[Cp (by omega)];exact hs _ (AQ5 _));refine Ev.step (λk=>Ak.l0.eq_2 ..) (Ev.AI (by omega) (Ev.AI (by omega) (Ev.AI (by omega) ?_)));rw[zM];have S:=ni (used:=used) fx sx h3 hi hF hlf;have B:=AH0 (used:=used) fx sx h3 hi hF;refine Ev.bind S ?_;show Ev _ (exO (if _ then _ else _));generalize nh (l.getD i zI) out B3 CG used=r at *;obtain⟨e,v,u⟩:=r;dsimp only[stO] at *;by_cases he:e=0
   · have B8:=B he
     subst he;rw[if_pos rfl];have esv:ADD (0,v,u)=en v:=rfl;rw[esv];refine Ev.AI rfl (Ev.bind (nX B8 (by omega)) ?_);by_cases hb:rb v>4096
     · rw[if_pos hb]
       refine Ev.AI hb (Ev.step (λk=>Ak.qG.eq_2 ..) (Ev.AO (by decide) (Ev.same rfl)))
     · rw[if_neg hb]
       refine Ev.AO hb (Ev.step (λk=>Ak.qG.eq_2 ..) (Ev.AI rfl ?_));refine Ev.AZ (ADE B8 (by omega)) (Ev.AI (by rw[AQi];omega) ?_);have:=ih (i+1) (out++ [v]) u (by omega) (by simp;omega) (ADC h3 (AJQ (by omega)));rw[ew];rw[<-rz] at this;exact this
   · rw[if_neg he]
     have esv:ADD (e,v,u)=zR:=if_neg he;rw[esv];refine Ev.AO he (Ev.step (λk=>Ak.qG.eq_2 ..) (Ev.AO he (Ev.same rfl)))
def exS (l:List I6) (B3 CG:List Rat):List Rat × Int × Int:=wX B3 CG l 0 [] 0
theorem zN {l:List R3} (hs : ∀x∈l,Ws x.2.1/\Ws x.2.2) (hr : ∀x∈l,RV x):(l.map de).map en=l:=by
 induction l with
 | nil=>rfl
 | cons x l ih =>
   have h1:=hs x (APq ..);rw[AQP,AQP,ADB h1.1 h1.2 (hr x (APq ..)),ih (λy hy=>hs y (APp _ hy)) (λy hy=>hr y (APp _ hy))]
theorem zO {l:List R3} {n:Nat} (hs : ∀x∈l,Ws x.2.1/\Ws x.2.2/\x.2.1.length<=n/\x.2.2.length<=n) (hr : ∀x∈l,RV x):sQ (64*n) (l.map de):=by
 intro y hy;obtain⟨x,hx,rfl⟩:=AQY.1 hy;have h:=hs x hx;exact AGJ h.1 h.2.1 (hr x hx) h.2.2.1 h.2.2.2
def Sh3 (q:R3):Prop:=Ws q.2.1/\Ws q.2.2/\q.2.1.length<=3/\q.2.2.length<=3
theorem Sh3.sm {q:R3} (h:Sh3 q):SmR q:=⟨h.1,h.2.1,by have:=h.2.2.1;omega,by have:=h.2.2.2;omega⟩
theorem AAr {b:Int} (hb:U b) : ∃w,U w/\Ev (λk=>B4.f k b) w/\Ev (λk=>DH.f k b) w:=by
 by_cases h4:fk b=4
 · exact⟨gw,Y2,UF hb (.inl h4),UH hb (.inl h4)⟩
 · by_cases h0:fk b=0
   · exact⟨b,hb,Qk hb (.inl h0),Ql hb (.inl h0)⟩
   · cases hs:fs b
     · by_cases h3:fk b=3
       · exact⟨b,hb,Qk hb (.inr ⟨h3,hs⟩),Ql hb (.inr ⟨h3,hs⟩)⟩
       · have hz:pm b≠0:=λk=>h0 ((Wb b).2.2.2.1.2 ⟨LS h4 h3,k⟩)
         have hp:=FB b;obtain⟨w,hw⟩:=AFN (show 0<pm b by omega) (pe b);have hU:U w:=by
          obtain⟨up,c,r,_,_,_,e⟩:=hw;rw[e];have:=MF (sv (pm b*2^up) r) c;unfold Xz at this;unfold U;omega
         exact⟨w,hU,nO hb h4 h3 h0 hs hw,nQ hb h4 h3 h0 hs hw⟩
     · exact⟨gw,Y2,UF hb (.inr ⟨h0,hs⟩),UH hb (.inr ⟨h0,hs⟩)⟩
theorem AFV (f k:Int):U (kH f k):=by
 unfold kH;split
 · exact AFS f
 · exact KI (Gi _ _) (KI (AFS f) (Gi _ _))
theorem AH1 {x:Int} (h:U x):U (AC2 x):=by
 unfold AC2;split
 · exact dm true
 · split
   · exact Y2
   · split
     · exact h
     · exact AFV _ _
theorem AH2 (x:Int):U (AC1 x):=by
 unfold AC1;split
 · exact Y2
 · split
   · unfold U Xz;omega
   · split
     · unfold U;omega
     · exact ACt (AC0 _ _ (NB _)) _
theorem AJS (neg:Bool) (N D:Int):U (fR neg N D):=by
 unfold fR;split
 · unfold U;omega
 · have h:0<=fq N D/\fq N D<=Xz:=by
    unfold fq;split
    · unfold Xz;omega
    · split
      · unfold Xz;omega
      · exact MF _ _
   exact(KH h.1 (by have:=h.2;unfold Xz at this;omega) neg).1
theorem AJT {b:Int} (h:U b):U (cl b):=by
 unfold cl;split
 · exact Y2
 · exact h
def Z8 (sq:Int->Int):Prop:= ∀b,U b->U (sq b)/\Ev (λk=>B4.f k b) (sq b)/\Ev (λk=>DH.f k b) (sq b)
theorem AE7 : ∃sq,Z8 sq:=by
 have : ∀b:Int,∃w,U b->U w/\Ev (λk=>B4.f k b) w/\Ev (λk=>DH.f k b) w:=λb=>by
  by_cases h:U b
  · obtain⟨w,hw⟩:=AAr h
    exact⟨w,λ_=>hw⟩
  · exact⟨0,λk=>absurd k h⟩
 exact⟨λb=>Classical.choose (this b),λb=>Classical.choose_spec (this b)⟩
def fdo (sq:Int->Int) (op a b:Int):Int:=if op=3 then fl a else if op=4 then RX a b else if op=5 then wJ a b else if op=6 then Pc a b else if op=7 then fdiv a b else if op=8 then sq a else if op=9 then AC1 a else AC2 a
theorem AGL {sq:Int->Int} (hq:Z8 sq) {op a b:Int} (ha:U a) (hb:U b):U (fdo sq op a b):=by
 unfold fdo
 repeat' split
 · exact AHn a
 · exact KI ha hb
 · exact VM ha
 · exact Gi a b
 · exact dr a b
 · exact(hq a ha).1
 · exact AH2 a
 · exact AH1 ha
def nj (sq:Int->Int) (x:I6) (out B3:List Int):Int:=if x.1=1 then cl (rd B3 x.2.1) else if x.1=2 then fR x.2.2.2.1 (nv x.2.2.2.2.1) (nv x.2.2.2.2.2) else fdo sq x.1 (rd out x.2.1) (rd out x.2.2.1)
def fll (sq:Int->Int) (B3:List Int):List I6->Nat->List Int->List Int × Int × Int
 | [],_,out=>(out,0,0)
 | x::l,i,out=>if x.1=1/\ ¬x.2.1<B3.length then([],i,11) else fll sq B3 l (i+1) (out++ [nj sq x out B3])
theorem eV {l:List Int} {a:Int} (h:Ws l) (h0:0<=a) (h1:a<l.length):U (rd l a):=by
 unfold rd;rw[Cp (by omega)];exact h _ (AQ5 _)
theorem AH3 {sq:Int->Int} (hq:Z8 sq) {x:I6} {out B3:List Int} (hf:MK x out.length) (ho:Ws out) (hi:Ws B3) (h1 : ¬(x.1=1/\ ¬x.2.1<B3.length)):U (nj sq x out B3):=by
 have c:=Wr hf;unfold nj;split
 · exact AJT (eV hi (by omega) (by omega))
 · split
   · exact AJS _ _ _
   · exact AGL hq (eV ho (by omega) (by omega)) (eV ho (by omega) (by omega))
theorem ADG {sq:Int->Int} (hq:Z8 sq) {x:I6} {out B3:List Int} (hf:MK x out.length) (hx:m8 x) (ho:Ws out) (hi:Ws B3) (h1 : ¬(x.1=1/\ ¬x.2.1<B3.length)) :
 Ev (λk=>Gm.f k x.1 x.2.1 x.2.2.1 x.2.2.2.1 x.2.2.2.2.1 x.2.2.2.2.2 out B3) (nj sq x out B3):=by
 have c:=Wr hf;obtain⟨op,a,b,q⟩:=x;dsimp only at c h1 ⊢;rcases c with⟨rfl,h0,_⟩ | ⟨rfl,hv,h0,h2⟩ | ⟨ho3,h0,h2,hb⟩ | ⟨ho2,h0,h2,hb0,gp⟩
 · exact Ev.AI rfl (Ev.AI h0 (Ev.AI (by omega) (Ev.AZ (Ny (eV hi h0 (by omega))) (Ev.same rfl))))
 · have R:=OV q.1 (a:=q.2.1) (b:=q.2.2) ⟨hx.1,by have:=hx.2.2.1;dsimp only at this;omega⟩ ⟨hx.2.1,by have:=hx.2.2.2;dsimp only at this;omega⟩ (by have:=hx.2.2.1;dsimp only at this;omega) (by have:=hx.2.2.2;dsimp only at this;omega) (nY hx.2.1 hv)
   exact Ev.AO (by decide) (Ev.AI rfl (Ev.bind R (Ev.same rfl)))
 · have ua:=eV ho h0 h2
   refine Ev.AO (by omega) (Ev.AO (by omega) ?_);rcases ho3 with rfl | rfl | rfl | rfl
   · exact Ev.AI rfl (Ev.AI h0 (Ev.AI h2 (Ev.AZ (Pd ua) (Ev.same rfl))))
   · exact Ev.AO (by decide) (Ev.AO (by decide) (Ev.AO (by decide) (Ev.AO (by decide) (Ev.AO (by decide) (Ev.AI rfl (Ev.AI h0 (Ev.AI h2 (Ev.bind (hq _ ua).2.1 (Ev.same rfl)))))))))
   · exact Ev.AO (by decide) (Ev.AO (by decide) (Ev.AO (by decide) (Ev.AO (by decide) (Ev.AO (by decide) (Ev.AO (by decide) (Ev.AI rfl (Ev.AI h0 (Ev.AI h2 (Ev.bind (Wo ua) (Ev.same rfl))))))))))
   · exact Ev.AO (by decide) (Ev.AO (by decide) (Ev.AO (by decide) (Ev.AO (by decide) (Ev.AO (by decide) (Ev.AO (by decide) (Ev.AO (by decide) (Ev.AI h0 (Ev.AI h2 (Ev.bind (Wm ua) (Ev.same rfl))))))))))
 · have ua:=eV ho h0 h2
   have ub:=eV ho hb0 gp;refine Ev.AO (by omega) (Ev.AO (by omega) (Ev.AO (by omega) ?_));rcases ho2 with rfl | rfl | rfl | rfl
   · exact Ev.AI rfl (Ev.AI h0 (Ev.AI h2 (Ev.AI hb0 (Ev.AI gp (Ev.bind (Fq ua ub) (Ev.same rfl))))))
   · exact Ev.AO (by decide) (Ev.AI rfl (Ev.AI h0 (Ev.AI h2 (Ev.AI hb0 (Ev.AI gp (Ev.bind (MJ ua ub) (Ev.same rfl)))))))
   · exact Ev.AO (by decide) (Ev.AO (by decide) (Ev.AI rfl (Ev.AI h0 (Ev.AI h2 (Ev.AI hb0 (Ev.AI gp (Ev.bind (Dj ua ub) (Ev.same rfl))))))))
   · exact Ev.AO (by decide) (Ev.AO (by decide) (Ev.AO (by decide) (Ev.AI rfl (Ev.AI h0 (Ev.AI h2 (Ev.AI hb0 (Ev.AI gp (Ev.bind (NA ua ub) (Ev.same rfl)))))))))
theorem ADH {sq:Int->Int} (hq:Z8 sq) {l:List I6} {B3:List Int} (hf:AAq l) (hs : ∀x∈l,m8 x) (hl:l.length<=1000000) (hi:Ws B3) (d:Nat) : ∀(i:Nat) (out:List Int),i+d=l.length->out.length=i->Ws out ->
 Ev (λk=>BP.l0 k B3 out l (l.length:Int) i) (fll sq B3 (l.drop i) i out):=by
 induction d with
 | zero =>
   intro i out h1 h2 h3;rw[ARc (by omega)];exact Ev.step (λk=>BP.l0.eq_2 ..) (Ev.AO (by omega) (Ev.same rfl))
 | succ d ih =>
   intro i out h1 h2 h3;rw[bQ (by omega)];have ew:wrap64 ((i:Int)+1)=((i+1:Nat):Int):=(by rw[AE (by omega) (by omega)];omega);have fx:MK (l.getD i zI) out.length:=(by rw[h2];exact hf i (by omega));have sx:m8 (l.getD i zI):=(by rw[Cp (by omega)];exact hs _ (AQ5 _));refine Ev.step (λk=>BP.l0.eq_2 ..) (Ev.AI (by omega) (Ev.AI (by omega) (Ev.AI (by omega) ?_)));rw[zM];show Ev _ (if _ then _ else _);have D:=ADG hq fx sx h3 hi;have V:=AH3 hq fx h3 hi;generalize l.getD i zI=x at *;have J : ¬(x.1=1/\ ¬x.2.1<B3.length)->Ev (λk=>BP.j9 k B3 out l (l.length:Int) i x.1 x.2.1 x.2.2.1 x.2.2.2.1 x.2.2.2.2.1 x.2.2.2.2.2) (fll sq B3 (l.drop (i+1)) (i+1) (out++ [nj sq x out B3])):=by
    intro hn;refine Ev.step (λk=>BP.j9.eq_2 ..) (Ev.bind (D hn) (Ev.AI (by omega) ?_));rw[ew];exact ih (i+1) _ (by omega) (by simp;omega) (RU.2 ⟨h3,JB (V hn)⟩)
   by_cases h1:x.1=1
   · by_cases h2:x.2.1<B3.length
     · rw[if_neg (λk=>k.2 h2)]
       exact Ev.AI h1 (Ev.AO (by omega) (J λk=>k.2 h2))
     · rw[if_pos ⟨h1,h2⟩]
       exact Ev.AI h1 (Ev.AI (by omega) (Ev.same rfl))
   · rw[if_neg (λk=>h1 k.1)]
     exact Ev.AO h1 (J λk=>h1 k.1)
abbrev V5:=(Bool × List Int × List Int) × Int × Int
abbrev BT:=Int × Int × List I6 × List Bool × List Bool × Int × Int × Bool × Int
def BS (m:Int) (met:List Bool) (n:Int) (tie:Bool) (e:Int):BT:=(m,0,[],[],met,0,n,tie,e)
def wv {S:Type} (v:V5) (s:S):Bool × List Int × List Int × Int × Int × S:=(v.1.1,v.1.2.1,v.1.2.2,v.2.1,v.2.2,s)
def zV:V5:=((false,[],[]),0,0)
def bK (c m:Int) (v:V5):Prop:=(m=0/\ ∃q,Bd c q/\v=(en q,0,0))\/(m=1/\ ∃b,U b/\v=((false,[],[]),b,0))
def Res (m:Int) (v:V5) (e:Int):Prop:=(e=0/\bK 6000 m v)\/(e≠0/\v=zV)
theorem F8 (m i:Int) (p:List I6) (ak met:List Bool) (ad n:Int) (tie:Bool) (e:Int):Ev (λk=>BV.f k m i p ak met ad n tie e) (!(e==0),m,i,p,ak,met,ad,n,tie,e):=⟨0,λ_ _=>rfl⟩
theorem eW (m i:Int) (p:List I6) (ak met:List Bool) (ad n:Int) (tie:Bool) (x:Int):Ev (λk=>A8.f k m i p ak met ad n tie 0 x) (m,i,p,ak,met,ad,n,tie,x):=⟨0,λ_ _=>rfl⟩
theorem uu : ¬(!((0:Int)==0))=true:=by decide
theorem eY : ¬(1:Int)=0:=by decide
theorem U_0:U 0:=by unfold U;decide
theorem zP {p:Int} :Rq p 1=en (p:Rat):=by
 unfold en;simp
theorem Wt {p:Int} (h0 : -9223372036854775808<=p) (h1:p<=9223372036854775807):Bd 64 (p:Rat):=by
 unfold Bd Fb;rw[Rat.num_intCast,Rat.den_intCast];refine⟨by decide,RY ?_,RY (by decide)⟩;unfold ab;split<;>omega
def qH (p:Int):Prop:= -9223372036854775808<=p/\p<=9223372036854775807
theorem wj {m:Int} {met:List Bool} {n:Int} {tie:Bool} {p q:Int} (hp:qH p) (hq:qH q) :
 (q≠0->Ev (λk=>Bg.f k m 0 [] [] met 0 n tie 0 p q) ((en ((p:Rat)/(q:Rat))).1,(en ((p:Rat)/(q:Rat))).2.1,(en ((p:Rat)/(q:Rat))).2.2,BS m met n tie 0)) /\
 (q=0->Ev (λk=>Bg.f k m 0 [] [] met 0 n tie 0 p q) (false,[],[],BS m met n tie 4)):=by
 have e1:=Wu hq.1 hq.2;have e2:=Wu hp.1 hp.2;rw[zP] at e1 e2;have e3:=TU (Wt hp.1 hp.2) (Wt hq.1 hq.2) (by omega) (by omega);refine⟨λh=> ?_,λh=> ?_⟩
 · have hz : ¬(q:Rat)=0:=λz=>h (by exact_mod_cast z)
   rw[qo,if_neg hz] at e3;exact Ev.bind e1 (Ev.bind e2 (Ev.bind e3 (Ev.bind (eW _ _ _ _ _ _ _ _ _) (Ev.same rfl))))
 · subst h
   rw[qo,if_pos (by rfl)] at e3;exact Ev.bind e1 (Ev.bind e2 (Ev.bind e3 (Ev.bind (eW _ _ _ _ _ _ _ _ _) (Ev.same rfl))))
theorem dU {p q:Int} (hp:qH p) (hq:qH q) (h:q≠0):Bd 128 ((p:Rat)/(q:Rat)):=wW (Wt hp.1 hp.2) (Wt hq.1 hq.2) (λz=>h (by exact_mod_cast z))
theorem ADI {x:Rat} (h:Bd 128 x):(en x).2.1.length<=30/\(en x).2.2.length<=30:=by
 rw[K5];have a:=AQ (ab x.num);have b:=AQ (x.den:Int);have:=h.2;dsimp only;omega
theorem iT {sq:Int->Int} (hq:Z8 sq) {op a b:Int} (ua:U a) (ub:U b):Ev (λk=>Hg.f k op a b) (fdo sq op a b):=by
 unfold fdo;by_cases h3:op=3
 · rw[if_pos h3];exact Ev.AI h3 (Ev.AZ (Pd ua) (Ev.same rfl))
 rw[if_neg h3];refine Ev.AO h3 ?_;by_cases h3:op=4
 · rw[if_pos h3];exact Ev.AI h3 (Ev.bind (Fq ua ub) (Ev.same rfl))
 rw[if_neg h3];refine Ev.AO h3 ?_;by_cases h3:op=5
 · rw[if_pos h3];exact Ev.AI h3 (Ev.bind (MJ ua ub) (Ev.same rfl))
 rw[if_neg h3];refine Ev.AO h3 ?_;by_cases h3:op=6
 · rw[if_pos h3];exact Ev.AI h3 (Ev.bind (Dj ua ub) (Ev.same rfl))
 rw[if_neg h3];refine Ev.AO h3 ?_;by_cases h3:op=7
 · rw[if_pos h3];exact Ev.AI h3 (Ev.bind (NA ua ub) (Ev.same rfl))
 rw[if_neg h3];refine Ev.AO h3 ?_;by_cases h3:op=8
 · rw[if_pos h3];exact Ev.AI h3 (Ev.bind (hq _ ua).2.1 (Ev.same rfl))
 rw[if_neg h3];refine Ev.AO h3 ?_;by_cases h3:op=9
 · rw[if_pos h3];exact Ev.AI h3 (Ev.bind (Wo ua) (Ev.same rfl))
 rw[if_neg h3];exact Ev.AO h3 (Ev.bind (Wm ua) (Ev.same rfl))
theorem zQ {sq:Int->Int} {op a b b':Int} (h : ¬(4<=op/\op<=7)):fdo sq op a b=fdo sq op a b':=by
 unfold fdo;by_cases h3:op=3
 · rw[if_pos h3,if_pos h3]
 have n4 : ¬op=4:=by omega
 have n5 : ¬op=5:=by omega
 have n6 : ¬op=6:=by omega
 have n7 : ¬op=7:=by omega
 rw[if_neg h3,if_neg h3,if_neg n4,if_neg n4,if_neg n5,if_neg n5,if_neg n6,if_neg n6,if_neg n7,if_neg n7]
theorem Rm {m n:Int} {met:List Bool} {b t:Bool} (hl:met.length<=1000000):Ev (λk=>Af.j18 k b m 0 [] [] met 0 n t 0) (b,BS m (met++ [b]) n t 0) :=
 Ev.step (λk=>Af.j18.eq_2 ..) (Ev.AI rfl (Ev.AI (by omega) (Ev.same rfl)))
section
theorem AJU {c m:Int} {v:V5} (h:bK c m v):U v.2.1:=by
 rcases h with⟨_,q,_,rfl⟩ | ⟨_,b,hb,rfl⟩
 · exact U_0
 · exact hb
section
variable {m:Int} {met:List Bool} {n:Int} {tie:Bool} {e:Int}
end
def dX (l:List V5) (a:Int):V5:=if a<1 then zV else if a>(l.length:Int) then zV else l.getD ((l.length:Int)-a).toNat zV
theorem nk {l:List V5} {t:List Bool} {a:Int} (hl:l.length<=1000000):Ev (λk=>Ab.f k l t a) (wv (dX l a) (l,t)):=by
 unfold dX;by_cases h1:a<1
 · rw[if_pos h1]
   exact Ev.AI h1 (Ev.step (λk=>Ab.j2.eq_2 ..) (Ev.same rfl))
 rw[if_neg h1];refine Ev.AO h1 ?_;by_cases h2:a>(l.length:Int)
 · rw[if_pos h2]
   exact Ev.AI h2 (Ev.step (λk=>Ab.j2.eq_2 ..) (Ev.same rfl))
 rw[if_neg h2];have ew:wrap64 ((l.length:Int)-a)=(l.length:Int)-a:=by rw[AE (by omega) (by omega)]
 refine Ev.AO h2 (Ev.AI (by rw[ew];omega) (Ev.AI (by rw[ew];omega) (Ev.same ?_)));rw[ew];rfl
end
section
def oB (m:Int) (met:List Bool) (n:Int) (tie:Bool) (e:Int) (l:List V5) (t:List Bool):Int × Int × List I6 × List Bool × List Bool × Int × Int × Bool × Int × List V5 × List Bool:=(m,0,[],[],met,0,n,tie,e,l,t)
section
variable {m K A B P Q W n e:Int} {met t:List Bool} {tie:Bool} {l:List V5}
theorem s9 (h:K≠11):Ev (λk=>AA.j9 k K A B P Q W m 0 [] [] met 0 n tie e l t) (oB m met n tie e l t):=Ev.step (λk=>AA.j9.eq_2 ..) (Ev.AO h (Ev.same rfl))
theorem s7 (h:K≠11) (h2 : ¬(3<=K/\K<=10)):Ev (λk=>AA.j7 k K A B P Q W m 0 [] [] met 0 n tie e l t) (oB m met n tie e l t):=by
 refine Ev.step (λk=>AA.j7.eq_2 ..) ?_;by_cases h3:K>=3
 · exact Ev.AI h3 (Ev.AO (by omega) (s9 h))
 · exact Ev.AO h3 (s9 h)
theorem s5 (h:K=0):Ev (λk=>AA.j5 k K A B P Q W m 0 [] [] met 0 n tie e l t) (oB m met n tie e l t):=Ev.step (λk=>AA.j5.eq_2 ..) (Ev.AO (by omega) (s7 (by omega) (by omega)))
theorem bK.mono {c d m:Int} {v:V5} (h:bK c m v) (hc:c<=d):bK d m v:=by
 rcases h with⟨h,q,hq,r⟩ | h
 · exact .inl ⟨h,q,hq.mono hc,r⟩
 · exact .inr h
end
end
theorem bM {l:List V5} {a:Int} (h1:1<=a) (h2:a<=l.length):dX l a∈l:=by
 unfold dX;rw[if_neg (by omega),if_neg (by omega),Cp (by omega)];exact AQ5 _
theorem nu (s:Bool) (a b:List Int) (m:Int) : ∃r,DD.f s a b m=some r/\(r=false↔(a.length:Int)<=m/\(b.length:Int)<=m):=by
 unfold DD.f;by_cases h:(a.length:Int)>m
 · rw[if_pos h];exact⟨true,rfl,by simp;omega⟩
 · rw[if_neg h]
   refine⟨_,rfl, ?_⟩;rw[decide_eq_false_iff_not];omega
theorem ADJ {l:List I6} {B3 CG:List R3} (hl:l.length<=60) (hs : ∀x∈l,m8 x) (li:B3.length<=1000) (lf:CG.length<=1000) (hi : ∀x∈B3,Sh3 x) (hF : ∀x∈CG,Sh3 x) (f1:AAq l) (f2 : ∀x∈B3,RV x) (f3 : ∀x∈CG,RV x):Ev (λk=>Ak.f k l B3 CG) (exO (exS l (B3.map de) (CG.map de))):=by
 obtain⟨a1,A1,c1⟩:=Wq (l:=l) (by omega) (λx hx=>(hs x hx).sm);obtain⟨a2,A2,c2⟩:=UK (l:=B3) (by omega) (λx hx=>(hi x hx).sm);obtain⟨a3,A3,c3⟩:=UK (l:=CG) (by omega) (λx hx=>(hF x hx).sm);refine Ev.bind A1 (Ev.AI (c1.2 f1) (Ev.bind A2 (Ev.AI (c2.2 f2) (Ev.bind A3 (Ev.AI (c3.2 f3) ?_)))));have:=ADF (B3:=B3.map de) (CG:=CG.map de) f1 hs (by omega) ((zO hi f2).mono (by omega)) ((zO hF f3).mono (by omega)) (by rw[AQi];omega) l.length 0 [] 0 (by omega) rfl (AFU _);rw[zN (λx hx=>⟨(hi x hx).1,(hi x hx).2.1⟩) f2,zN (λx hx=>⟨(hF x hx).1,(hF x hx).2.1⟩) f3] at this;exact this
theorem ADK {sq:Int->Int} (hq:Z8 sq) {l:List I6} {B3:List Int} (hl:l.length<=60) (hs : ∀x∈l,m8 x) (hi:Ws B3) (f1:AAq l):Ev (λk=>BP.f k l B3) (fll sq B3 l 0 []):=by
 obtain⟨a1,A1,c1⟩:=Wq (l:=l) (by omega) (λx hx=>(hs x hx).sm);exact Ev.bind A1 (Ev.AI (c1.2 f1) (ADH hq f1 hs (by omega) hi l.length 0 [] (by omega) rfl GI))
theorem kM (l:List V5) (i:Nat):Bz l (i:Int)=l.getD i zV:=by
 show l.getD ((i:Int)).toNat zV=_;rw[APr]
theorem AH4 {l:List V5} (hl:l.length<=1000000) (m:Int) (d:Nat) : ∀i:Nat,i+d=l.length-> ∃r,Ev (λk=>BG.l0 k l m (l.length:Int) i) r/\(r=false-> ∀j:Nat,i<=j->j<l.length->((l.getD j zV).1.2.1.length:Int)<=m/\((l.getD j zV).1.2.2.length:Int)<=m):=by
 induction d with
 | zero =>
   intro i h;exact⟨false,Ev.step (λk=>BG.l0.eq_2 ..) (Ev.AO (by omega) (Ev.same rfl)),λ_ j h1 h2=>by omega⟩
 | succ d ih =>
   intro i h;obtain⟨r1,h1,g1⟩:=nu (l.getD i zV).1.1 (l.getD i zV).1.2.1 (l.getD i zV).1.2.2 m;obtain⟨r2,h2,g2⟩:=ih (i+1) (by omega);have ew:wrap64 ((i:Int)+1)=((i+1:Nat):Int):=(by rw[AE (by omega) (by omega)];omega);refine⟨r1 || r2,Ev.step (λk=>BG.l0.eq_2 ..) (Ev.AI (by omega) (Ev.AI (by omega) (Ev.AI (by omega) ?_))),λhf=> ?_⟩
   · rw[kM]
     refine Ev.AZ h1 ?_;cases r1
     · refine Ev.AO (by decide) ?_
       rw[ew];exact h2
     · exact Ev.AI rfl (Ev.same rfl)
   · rw[Bool.or_eq_false_iff] at hf
     rw[eT (show i<l.length by omega)];exact⟨g1.1 hf.1,g2 hf.2⟩
theorem ADL {l:List V5} {t:List Bool} (hl:l.length<=1000000) : ∃r,Ev (λk=>DE.f k l t) r/\(r=false-> ∀v∈l,(v.1.2.1.length:Int)<=40/\(v.1.2.2.length:Int)<=40):=by
 obtain⟨r,h,g⟩:=AH4 hl 40 l.length 0 (by omega);refine⟨r,Ev.bind h (Ev.same rfl),λhf v hv=> ?_⟩;obtain⟨j,hj,rfl⟩:=ASG hv;have:=g hf j (by omega) hj;rw[Cp hj] at this;exact this
theorem AFW {l:List Bool} (hl:l.length<=1000000) (d:Nat) : ∀i:Nat,i+d=l.length->Ev (λk=>Av.l0 k l l (l.length:Int) i) true:=by
 induction d with
 | zero =>
   intro i h;exact Ev.step (λk=>Av.l0.eq_2 ..) (Ev.AO (by omega) (Ev.same rfl))
 | succ d ih =>
   intro i h;have ew:wrap64 ((i:Int)+1)=((i+1:Nat):Int):=(by rw[AE (by omega) (by omega)];omega);refine Ev.step (λk=>Av.l0.eq_2 ..) (Ev.AI (by omega) (Ev.AI (by omega) (Ev.AI (by omega) (Ev.AI (by omega) (Ev.AO (by simp) ?_)))));rw[ew];exact ih (i+1) (by omega)
theorem AE8 {l:List Bool} (hl:l.length<=1000000):Ev (λk=>Av.f k l l) true:=Ev.AI rfl (AFW hl l.length 0 (by omega))
theorem AAg {c m:Int} {v:V5} (h:bK c m v) (h1:(v.1.2.1.length:Int)<=40) (h2:(v.1.2.2.length:Int)<=40):bK 2560 m v:=by
 rcases h with⟨rfl,q,hq,rfl⟩ | h
 · refine .inl ⟨rfl,q, ?_,rfl⟩
   rw[K5] at h1 h2;dsimp only at h1 h2;have a:=E9 (Qm (ab q.num));have b:=E9 (Qm (q.den:Int));rw[AY (by unfold ab;split<;>omega)] at a;rw[AY (by omega)] at b;exact⟨hq.1,by omega,by omega⟩
 · exact .inr h
abbrev A6:=Int × Int × Int × Int × Int × Int
def zA:A6:=(0,0,0,0,0,0)
theorem zS (l:List A6) (i:Nat):CE l (i:Int)=l.getD i zA:=by
 show l.getD ((i:Int)).toNat zA=_;rw[APr]
def AOk (a:A6):Prop:=qH a.2.2.2.1/\qH a.2.2.2.2.1/\U a.2.2.2.2.2
def Szs (l:List V5):Prop:= ∀v∈l,v.1.2.1.length<=1000000/\v.1.2.2.length<=1000000
theorem ACb {m e:Int} {v:V5} (h:Res m v e):v.1.2.1.length<=1000000/\v.1.2.2.length<=1000000:=by
 rcases h with⟨_,⟨_,q,hq,rfl⟩ | ⟨_,b,_,rfl⟩⟩ | ⟨_,rfl⟩
 · have:=wZ hq (by omega)
   exact⟨AQp this.1 (by omega),AQp this.2 (by omega)⟩
 · exact⟨by simp,by simp⟩
 · exact⟨by simp[zV],by simp[zV]⟩
theorem ACZ {m:Int} (h0:0<=m) (h1:m<=2):Ev (λk=>Gv.f k m []) (false,m,0,[],0,0,false,0):=Ev.AO (by omega) (Ev.AO (by omega) (Ev.AI (by simp) (Ev.same rfl)))
theorem AAs:Ev (λk=>DW.f k 0 0 [] [] [] 0 0 false 0 1 2) (wv (en ((1:Int)/(2:Int):Rat),0,0) (BS 0 [] 0 false 0)):=by
 obtain⟨a1,_⟩:=wj (m:=0) (met:= []) (n:=0) (tie:=false) (p:=1) (q:=2) (by unfold qH;decide) (by unfold qH;decide);exact Ev.bind (F8 _ _ _ _ _ _ _ _ _) (Ev.AO uu (Ev.bind (a1 (by decide)) (Ev.AI rfl (Ev.AI rfl (Ev.same rfl)))))
theorem ADM:((1:Int)/(2:Int):Rat)+((1:Int)/(2:Int):Rat)=((1:Int):Rat):=by
 have:(((1:Int):Rat)/((2:Int):Rat))+(((1:Int):Rat)/((2:Int):Rat))=((1:Int):Rat):=by decide +kernel
 exact this
theorem AAt:Ev (λk=>D5.f k 0 0 [] [] [] 0 0 false 0 (en ((1:Int)/(2:Int):Rat)).1 (en ((1:Int)/(2:Int):Rat)).2.1 (en ((1:Int)/(2:Int):Rat)).2.2 0 0 (en ((1:Int)/(2:Int):Rat)).1 (en ((1:Int)/(2:Int):Rat)).2.1 (en ((1:Int)/(2:Int):Rat)).2.2 0 0) (wv (en ((1:Int):Rat),0,0) (BS 0 [] 1 false 0)):=by
 have hB:Bd 128 ((1:Int)/(2:Int):Rat):=dU (by unfold qH;decide) (by unfold qH;decide) (by decide);have w:wrap64 ((0:Int)+1)=1:=by rw[AE (by omega) (by omega)];rfl
 have A:=YO hB hB (by omega) (by omega);rw[ADM] at A;refine Ev.bind (Ev.bind (F8 _ _ _ _ _ _ _ _ _) (Ev.AO uu (Ev.AI rfl (Ev.bind (Ev.AO (show¬(4:Int)=3 by decide) (Ev.AI rfl (Ev.bind A (Ev.same rfl)))) (Ev.step (λk=>AM.zT.eq_2 ..) (Ev.AI rfl (Ev.same rfl))))))) (Ev.same (by dsimp only[BS,wv];rw[w]))
def in0:I6:=(1,0,0,false,[],[])
def in1:I6:=(1,1,0,false,[],[])
def in2:I6:=(6,0,1,false,[],[])
theorem wz0:wrap64 0=0:=by rw[AE (by omega) (by omega)]
theorem wz1:wrap64 1=1:=by rw[AE (by omega) (by omega)]
theorem wz2:wrap64 2=2:=by rw[AE (by omega) (by omega)]
theorem wz3:wrap64 3=3:=by rw[AE (by omega) (by omega)]
theorem AMB:Ev (λk=>CU.f k 2 0 [] [] [] 0 0 false 0 0 0 0) (false,[],[],0,0,2,1,[in0],[],[],0,0,false,0):=by
 refine⟨5,λk hk=> ?_⟩;simp[CU.f,BV.f,Br.f,in0,wz0,wz1]
theorem AMC:Ev (λk=>CU.f k 2 1 [in0] [] [] 0 0 false 0 0 0 0) (false,[],[],0,1,2,2,[in0,in1],[],[],0,0,false,0):=by
 refine⟨5,λk hk=> ?_⟩;simp[CU.f,BV.f,Br.f,in0,in1,wz1,wz2]
theorem AJV:Ev (λk=>DX.f k 2 2 [in0,in1] [] [] 0 0 false 0 false [] [] 0 0 false [] [] 0 1) (false,[],[],0,2,2,2,[in0,in1,in2],[],[],0,1,false,0):=by
 refine⟨9,λk hk=> ?_⟩;obtain⟨j,rfl⟩ : ∃j,k=j+9:=⟨k-9,by omega⟩;simp[DX.f,AM.f,BV.f,CL.f,AM.j7,AM.qG,AM.zT,Br.f,in0,in1,in2,wz1,wz2]
theorem AJW:Ev (λk=>Aj.f k 2 2 [in0,in1,in2] [] [] 0 1 false 0) ([in0,in1,in2],2,2,[in0,in1,in2],[],[],0,1,false,0):=by
 refine⟨9,λk hk=> ?_⟩;obtain⟨j,rfl⟩ : ∃j,k=j+9:=⟨k-9,by omega⟩;simp[Aj.f,Aj.l0,GY.f,in0,in1,in2,wz1,wz2,wz3]
theorem WY:Ev (λk=>AR.f k) true:=by
 have O:=VO (n:=1) (by omega) (by omega);rw[zP] at O;have l:=wZ (Wt (p:=1) (by omega) (by omega)) (by omega);have S:=Wv (s:=(en ((1:Int):Rat)).1) (s':=(en ((1:Int):Rat)).1) (a:=(en ((1:Int):Rat)).2.1) (b:=(en ((1:Int):Rat)).2.2) (a':=(en ((1:Int):Rat)).2.1) (b':=(en ((1:Int):Rat)).2.2) (by omega) (by omega);rw[decide_eq_true rfl] at S;have ff : ¬(false=true):=by decide
 refine Ev.bind (ACZ (m:=0) (by omega) (by omega)) (Ev.AO ff (Ev.bind (ACZ (m:=2) (by omega) (by omega)) (Ev.AO ff ?_)));refine Ev.bind AAs (Ev.bind AAt (Ev.bind AMB (Ev.bind AMC (Ev.bind AJV (Ev.bind AJW (Ev.bind O (Ev.bind S (Ev.AI rfl ?_))))))));refine Ev.bind (a:=(1,0,0,[],[],[],0,1,false,0)) ⟨0,λ_ _=>rfl⟩ (Ev.AI rfl (Ev.AI rfl (Ev.AI (by decide) (Ev.AI rfl (Ev.AI rfl (Ev.AI (by decide) (Ev.same rfl)))))))
section
abbrev Z9:=Int × Int × List I6 × List Bool × List Bool × Int × Int × Bool × Int × List V5 × List Bool
def oS (s:BT) (l:List V5) (t:List Bool):Z9:=(s.1,s.2.1,s.2.2.1,s.2.2.2.1,s.2.2.2.2.1,s.2.2.2.2.2.1,s.2.2.2.2.2.2.1,s.2.2.2.2.2.2.2.1,s.2.2.2.2.2.2.2.2,l,t)
def stF (K A B P Q W:Int) (s:BT) (l:List V5) (t:List Bool) (k:Nat):Option Z9:=AA.f k s.1 s.2.1 s.2.2.1 s.2.2.2.1 s.2.2.2.2.1 s.2.2.2.2.2.1 s.2.2.2.2.2.2.1 s.2.2.2.2.2.2.2.1 s.2.2.2.2.2.2.2.2 l t K A B P Q W
def AH5 (two:Bool) (K A B P Q W:Int) (s:BT) (l:List V5) (t:List Bool) (k:Nat):Option Z9:=AA.j2 k two K A B P Q W s.1 s.2.1 s.2.2.1 s.2.2.2.1 s.2.2.2.2.1 s.2.2.2.2.2.1 s.2.2.2.2.2.2.1 s.2.2.2.2.2.2.2.1 s.2.2.2.2.2.2.2.2 l t
def AAu (K A B P Q W:Int) (s:BT) (l:List V5) (t:List Bool) (k:Nat):Option Z9:=AA.j3 k K A B P Q W s.1 s.2.1 s.2.2.1 s.2.2.2.1 s.2.2.2.2.1 s.2.2.2.2.2.1 s.2.2.2.2.2.2.1 s.2.2.2.2.2.2.2.1 s.2.2.2.2.2.2.2.2 l t
def AJX (K A B P Q W:Int) (s:BT) (l:List V5) (t:List Bool) (k:Nat):Option Z9:=AA.j5 k K A B P Q W s.1 s.2.1 s.2.2.1 s.2.2.2.1 s.2.2.2.2.1 s.2.2.2.2.2.1 s.2.2.2.2.2.2.1 s.2.2.2.2.2.2.2.1 s.2.2.2.2.2.2.2.2 l t
def AJY (K A B P Q W:Int) (s:BT) (l:List V5) (t:List Bool) (k:Nat):Option Z9:=AA.j7 k K A B P Q W s.1 s.2.1 s.2.2.1 s.2.2.2.1 s.2.2.2.2.1 s.2.2.2.2.2.1 s.2.2.2.2.2.2.1 s.2.2.2.2.2.2.2.1 s.2.2.2.2.2.2.2.2 l t
def AMD (K A B P Q W:Int) (s:BT) (l:List V5) (t:List Bool) (k:Nat):Option Z9:=AA.j9 k K A B P Q W s.1 s.2.1 s.2.2.1 s.2.2.2.1 s.2.2.2.2.1 s.2.2.2.2.2.1 s.2.2.2.2.2.2.1 s.2.2.2.2.2.2.2.1 s.2.2.2.2.2.2.2.2 l t
def ADN (s:BT) (P Q W:Int):Nat->Option (Bool × List Int × List Int × Int × Int × BT):=λk=>CU.f k s.1 s.2.1 s.2.2.1 s.2.2.2.1 s.2.2.2.2.1 s.2.2.2.2.2.1 s.2.2.2.2.2.2.1 s.2.2.2.2.2.2.2.1 s.2.2.2.2.2.2.2.2 P Q W
def AAv (s:BT) (P Q:Int):Nat->Option (Bool × List Int × List Int × Int × Int × BT):=λk=>DW.f k s.1 s.2.1 s.2.2.1 s.2.2.2.1 s.2.2.2.2.1 s.2.2.2.2.2.1 s.2.2.2.2.2.2.1 s.2.2.2.2.2.2.2.1 s.2.2.2.2.2.2.2.2 P Q
def dY (s:BT) (op:Int) (x y:V5):Nat->Option (Bool × List Int × List Int × Int × Int × BT):=λk=>Da.f k s.1 s.2.1 s.2.2.1 s.2.2.2.1 s.2.2.2.2.1 s.2.2.2.2.2.1 s.2.2.2.2.2.2.1 s.2.2.2.2.2.2.2.1 s.2.2.2.2.2.2.2.2 op x.1.1 x.1.2.1 x.1.2.2 x.2.1 x.2.2 y.1.1 y.1.2.1 y.1.2.2 y.2.1 y.2.2
def doF (s:BT) (op:Int) (x y:V5) (two:Bool):Nat->Option (Bool × List Int × List Int × Int × Int × BT):=λk=>AM.f k s.1 s.2.1 s.2.2.1 s.2.2.2.1 s.2.2.2.2.1 s.2.2.2.2.2.1 s.2.2.2.2.2.2.1 s.2.2.2.2.2.2.2.1 s.2.2.2.2.2.2.2.2 op x.1.1 x.1.2.1 x.1.2.2 x.2.1 x.2.2 y.1.1 y.1.2.1 y.1.2.2 y.2.1 y.2.2 two
def sR (s:BT) (x y:V5):Nat->Option (Bool × BT):=λk=>Af.f k s.1 s.2.1 s.2.2.1 s.2.2.2.1 s.2.2.2.2.1 s.2.2.2.2.2.1 s.2.2.2.2.2.2.1 s.2.2.2.2.2.2.2.1 s.2.2.2.2.2.2.2.2 x.1.1 x.1.2.1 x.1.2.2 x.2.1 x.2.2 y.1.1 y.1.2.1 y.1.2.2 y.2.1 y.2.2
def Can (K A B n:Int):Prop:=(K>1->1<=A/\A<=n)/\((4<=K/\K<=7)\/K=11->1<=B/\B<=n)
section
variable {K A B P Q W:Int} {s s':BT} {l:List V5} {t:List Bool} {v:V5} {b:Bool}
theorem g9 (h:K≠11):Ev (AMD K A B P Q W s l t) (oS s l t):=Ev.step (λk=>AA.j9.eq_2 ..) (Ev.AO h (Ev.same rfl))
theorem g7 (h:K≠11) (h2 : ¬(3<=K/\K<=10)):Ev (AJY K A B P Q W s l t) (oS s l t):=by
 refine Ev.step (λk=>AA.j7.eq_2 ..) ?_;by_cases h3:K>=3
 · exact Ev.AI h3 (Ev.AO (by omega) (g9 h))
 · exact Ev.AO h3 (g9 h)
theorem g5 (h:K≠1) {r:Z9} (E:Ev (AJY K A B P Q W s l t) r):Ev (AJX K A B P Q W s l t) r:=Ev.step (λk=>AA.j5.eq_2 ..) (Ev.AO h E)
theorem g3 (h:K≠0) {r:Z9} (E:Ev (AJX K A B P Q W s l t) r):Ev (AAu K A B P Q W s l t) r:=Ev.step (λk=>AA.j3.eq_2 ..) (Ev.AO h E)
theorem g2 {two:Bool} (ht:two=true↔(4<=K/\K<=7)\/K=11) (h:Can K A B l.length) {r:Z9} (E:Ev (AAu K A B P Q W s l t) r):Ev (AH5 two K A B P Q W s l t) r:=by
 refine Ev.step (λk=>AA.j2.eq_2 ..) ?_;obtain⟨hA,hB⟩:=h;have in2:Ev (λk=>if two=true then(if B<1 then some (oS s l t) else if B>(l.length:Int) then some (oS s l t) else AAu K A B P Q W s l t k) else AAu K A B P Q W s l t k) r:=by
  by_cases h2:two=true
  · have:=hB (ht.1 h2)
    exact Ev.AI h2 (Ev.AO (by omega) (Ev.AO (by omega) E))
  · exact Ev.AO h2 E
 by_cases hK:K>1
 · have:=hA hK
   exact Ev.AI hK (Ev.AO (by omega) (Ev.AO (by omega) in2))
 · exact Ev.AO hK in2
theorem g2n {two:Bool} (ht:two=true↔(4<=K/\K<=7)\/K=11) (h : ¬Can K A B l.length):Ev (AH5 two K A B P Q W s l t) (oS s l t):=by
 refine Ev.step (λk=>AA.j2.eq_2 ..) ?_;have in2:(K>1->1<=A/\A<=l.length)->Ev (λk=>if two=true then(if B<1 then some (oS s l t) else if B>(l.length:Int) then some (oS s l t) else AAu K A B P Q W s l t k) else AAu K A B P Q W s l t k) (oS s l t):=by
  intro hA;by_cases h2:two=true
  · refine Ev.AI h2 ?_
    by_cases h3:B<1
    · exact Ev.AI h3 (Ev.same rfl)
    by_cases h4:B>(l.length:Int)
    · exact Ev.AO h3 (Ev.AI h4 (Ev.same rfl))
    · exact absurd ⟨hA,λ_=>by omega⟩ h
  · exact absurd ⟨hA,λz=>absurd (ht.2 z) h2⟩ h
 by_cases hK:K>1
 · refine Ev.AI hK ?_
   by_cases h3:A<1
   · exact Ev.AI h3 (Ev.same rfl)
   by_cases h4:A>(l.length:Int)
   · exact Ev.AO h3 (Ev.AI h4 (Ev.same rfl))
   · exact Ev.AO h3 (Ev.AO h4 (in2 λ_=>by omega))
 · exact Ev.AO hK (in2 λz=>absurd z hK)
theorem gf {r:Z9} (E : ∀two:Bool,(two=true↔(4<=K/\K<=7)\/K=11)->Ev (AH5 two K A B P Q W s l t) r):Ev (stF K A B P Q W s l t) r:=by
 by_cases h1:K>=4
 · by_cases h2:K<=7
   · exact Ev.AI h1 (Ev.AI h2 (E true ⟨λ_=> .inl ⟨h1,h2⟩,λ_=>rfl⟩))
   · exact Ev.AI h1 (Ev.AO h2 (E (K==11) ⟨λh=> .inr (beq_iff_eq.1 h),λh=>beq_iff_eq.2 (by omega)⟩))
 · exact Ev.AO h1 (E (K==11) ⟨λh=> .inr (beq_iff_eq.1 h),λh=>beq_iff_eq.2 (by omega)⟩)
theorem rj (h : ¬Can K A B l.length\/K<0\/K=2\/11<K):Ev (stF K A B P Q W s l t) (oS s l t):=gf λtwo ht=>by
 by_cases h0:Can K A B l.length
 · have h1:K<0\/K=2\/11<K:=h.resolve_left λz=>z h0
   exact g2 ht h0 (g3 (by omega) (g5 (by omega) (g7 (by omega) (by omega))))
 · exact g2n ht h0
theorem rm (hK:K=0) (hl:l.length<=1000000) (E:Ev (ADN s P Q W) (wv v s')):Ev (stF K A B P Q W s l t) (oS s' (l++ [v]) t):=gf λtwo ht =>
 g2 ht ⟨λh=>by omega,λh=>by omega⟩ (Ev.step (λk=>AA.j3.eq_2 ..) (Ev.AI hK (Ev.bind E (Ev.AI (by omega) (g5 (by omega) (g7 (by omega) (by omega)))))))
theorem dW (hK:K=1) (hl:l.length<=1000000) (E:Ev (AAv s P Q) (wv v s')):Ev (stF K A B P Q W s l t) (oS s' (l++ [v]) t):=gf λtwo ht =>
 g2 ht ⟨λh=>by omega,λh=>by omega⟩ (g3 (by omega) (Ev.step (λk=>AA.j5.eq_2 ..) (Ev.AI hK (Ev.bind E (Ev.AI (by omega) (g7 (by omega) (by omega)))))))
theorem m7 (hK:3<=K/\K<=10) (hc:Can K A B l.length) (hl:l.length<=1000000) (E:Ev (dY s K (dX l A) (dX l B)) (wv v s')):Ev (stF K A B P Q W s l t) (oS s' (l++ [v]) t):=gf λtwo ht =>
 g2 ht hc (g3 (by omega) (g5 (by omega) (Ev.step (λk=>AA.j7.eq_2 ..) (Ev.AI hK.1 (Ev.AI hK.2 (Ev.bind (nk (a:=A) hl) (Ev.bind (nk (a:=B) hl) (Ev.bind E (Ev.AI (by dsimp only[wv];omega) (g9 (by omega)))))))))))
theorem jv (hK:K=11) (hc:Can K A B l.length) (hl:l.length<=1000000) (ht2:t.length<=1000000) (E:Ev (sR s (dX l A) (dX l B)) (b,s')):Ev (stF K A B P Q W s l t) (oS s' l (t++ [b])):=gf λtwo ht =>
 g2 ht hc (g3 (by omega) (g5 (by omega) (Ev.step (λk=>AA.j7.eq_2 ..) (Ev.AI (by omega) (Ev.AO (by omega) (Ev.step (λk=>AA.j9.eq_2 ..) (Ev.AI hK (Ev.bind (nk (a:=A) hl) (Ev.bind (nk (a:=B) hl) (Ev.bind E (Ev.AI (by dsimp only[wv];omega) (Ev.same rfl))))))))))))
end
theorem ADO (s:BT) (h:s.2.2.2.2.2.2.2.2=0) (x:Int):Ev (λk=>A8.f k s.1 s.2.1 s.2.2.1 s.2.2.2.1 s.2.2.2.2.1 s.2.2.2.2.2.1 s.2.2.2.2.2.2.1 s.2.2.2.2.2.2.2.1 s.2.2.2.2.2.2.2.2 x) (s.1,s.2.1,s.2.2.1,s.2.2.2.1,s.2.2.2.2.1,s.2.2.2.2.2.1,s.2.2.2.2.2.2.1,s.2.2.2.2.2.2.2.1,x):=by
 refine⟨0,λ_ _=> ?_⟩;obtain⟨a,b,c,d,e,f,g,i,j⟩:=s;dsimp only at h;subst h;rfl
theorem ff : ¬(false=true):=by decide
theorem VP {m i:Int} {p':List I6} {ak met:List Bool} {ad n:Int} {tie:Bool} {p q:Int} (hp:qH p) (hq:qH q) :
 (q≠0->Ev (λk=>Bg.f k m i p' ak met ad n tie 0 p q) ((en ((p:Rat)/(q:Rat))).1,(en ((p:Rat)/(q:Rat))).2.1,(en ((p:Rat)/(q:Rat))).2.2,m,i,p',ak,met,ad,n,tie,0)) /\
 (q=0->Ev (λk=>Bg.f k m i p' ak met ad n tie 0 p q) (false,[],[],m,i,p',ak,met,ad,n,tie,4)):=by
 have e1:=Wu hq.1 hq.2;have e2:=Wu hp.1 hp.2;rw[zP] at e1 e2;have e3:=TU (Wt hp.1 hp.2) (Wt hq.1 hq.2) (by omega) (by omega);refine⟨λh=> ?_,λh=> ?_⟩
 · have hz : ¬(q:Rat)=0:=λz=>h (by exact_mod_cast z)
   rw[qo,if_neg hz] at e3;exact Ev.bind e1 (Ev.bind e2 (Ev.bind e3 (Ev.bind (ADO (m,i,p',ak,met,ad,n,tie,0) rfl _) (Ev.same rfl))))
 · subst h
   rw[qo,if_pos (by rfl)] at e3;exact Ev.bind e1 (Ev.bind e2 (Ev.bind e3 (Ev.bind (ADO (m,i,p',ak,met,ad,n,tie,0) rfl _) (Ev.same rfl))))
def oq (op:Int) (x y:Rat):Rat:=if op=3 then -x else if op=4 then x+y else if op=5 then x-y else if op=6 then x*y else x/y
def m6 (sq:Int->Int) (m op:Int) (x y:V5):V5:=if m=0 then(en (oq op (de x.1) (de y.1)),0,0) else(zR,fdo sq op x.2.1 y.2.1,0)
def dV (m:Int) (q:R3):V5:=if m=0 then(q,0,0) else(zR,fR q.1 (nv q.2.1) (nv q.2.2),0)
def rY (m P Q W:Int):V5:=if m=0 then(en ((P:Rat)/(Q:Rat)),0,0) else(zR,cl W,0)
theorem AFX {sq:Int->Int} {m op:Int} {x y z:V5} (h : ¬(4<=op/\op<=7)) (h0:m=0->op=3):m6 sq m op x y=m6 sq m op x z:=by
 unfold m6;by_cases hm:m=0
 · rw[if_pos hm,if_pos hm,oq,oq,if_pos (h0 hm),if_pos (h0 hm)]
 · rw[if_neg hm,if_neg hm,zQ (b':=z.2.1) h]
section
variable {m:Int} {met:List Bool} {n:Int} {tie:Bool}
theorem AGG (hm:m=0\/m=1) {p q b:Int} (hp:qH p) (hq:qH q) (hb:U b) (h:q≠0):Ev (ADN (BS m met n tie 0) p q b) (wv (rY m p q b) (BS m met n tie 0))/\bK 2560 m (rY m p q b):=by
 unfold rY ADN BS;dsimp only;rcases hm with rfl | rfl
 · rw[if_pos rfl]
   exact⟨Ev.bind (F8 _ _ _ _ _ _ _ _ _) (Ev.AO uu (Ev.AI rfl (Ev.bind ((VP hp hq).1 h) (Ev.same rfl)))), .inl ⟨rfl,_,(dU hp hq h).mono (by omega),rfl⟩⟩
 · rw[if_neg eY]
   exact⟨Ev.bind (F8 _ _ _ _ _ _ _ _ _) (Ev.AO uu (Ev.AO eY (Ev.AI rfl (Ev.AZ (Ny hb) (Ev.same rfl))))), .inr ⟨rfl,_,AJT hb,rfl⟩⟩
theorem sS {x:Rat} (h:Bd 128 x):Ev (λk=>Bk.f k (en x).1 (en x).2.1 (en x).2.2) (fR (en x).1 (nv (en x).2.1) (nv (en x).2.2)):=by
 obtain⟨l1,l2,w1,w2⟩:=wk (Ic h (by omega));have hp:=K5 x;have hd:0<nv (en x).2.2:=by
  rw[hp];show 0<nv (dg x.den);rw[AY (by omega)];exact den_pos x
 have l30:=ADI h;exact OV _ w1 w2 l30.1 l30.2 hd
theorem AJC (hm:m=0\/m=1) {p q:Int} (hp:qH p) (hq:qH q) :
 (q≠0->Ev (AAv (BS m met n tie 0) p q) (wv (dV m (en ((p:Rat)/(q:Rat)))) (BS m met n tie 0))/\bK 2560 m (dV m (en ((p:Rat)/(q:Rat)))))/\(q=0->Ev (AAv (BS m met n tie 0) p q) (wv zV (BS m met n tie 4))):=by
 unfold AAv BS;dsimp only;obtain⟨a1,a2⟩:=VP (m:=m) (i:=0) (p':= []) (ak:= []) (ad:=0) (met:=met) (n:=n) (tie:=tie) hp hq;refine⟨λh=> ?_,λh=>Ev.bind (F8 _ _ _ _ _ _ _ _ _) (Ev.AO uu (Ev.bind (a2 h) (Ev.AO (show¬(4:Int)=0 by decide) (Ev.same rfl))))⟩;have hB:=dU hp hq h;unfold dV;rcases hm with rfl | rfl
 · rw[if_pos rfl]
   exact⟨Ev.bind (F8 _ _ _ _ _ _ _ _ _) (Ev.AO uu (Ev.bind (a1 h) (Ev.AI rfl (Ev.AI rfl (Ev.same rfl))))), .inl ⟨rfl,_,hB.mono (by omega),rfl⟩⟩
 · rw[if_neg eY]
   exact⟨Ev.bind (F8 _ _ _ _ _ _ _ _ _) (Ev.AO uu (Ev.bind (a1 h) (Ev.AI rfl (Ev.AO eY (Ev.AI rfl (Ev.bind (sS hB) (Ev.same rfl))))))), .inr ⟨rfl,_,AJS _ _ _,rfl⟩⟩
theorem AFY {op:Int} (h0:3<=op) (h1:op<=10) {x q:Rat} (hx:Bd 2560 x) {y:R3} (hy:4<=op/\op<=7->Bd 2560 q/\y=en q) :
 (op<=7/\(op=7->q≠0)/\Ev (λk=>Dk.f k 0 0 [] [] met 0 n tie 0 op (en x).1 (en x).2.1 (en x).2.2 y.1 y.2.1 y.2.2) ((en (oq op x q)).1,(en (oq op x q)).2.1,(en (oq op x q)).2.2,BS 0 met n tie 0)/\Bd 6000 (oq op x q)) \/
 ∃e,e≠0/\Ev (λk=>Dk.f k 0 0 [] [] met 0 n tie 0 op (en x).1 (en x).2.1 (en x).2.2 y.1 y.2.1 y.2.2) (false,[],[],BS 0 met n tie e):=by
 unfold oq;by_cases h3:op=3
 · rw[if_pos h3]
   exact .inl ⟨by omega,λz=>by omega,Ev.AI h3 (Ev.bind (kJ hx (by omega)) (Ev.same rfl)),(wU hx).mono (by omega)⟩
 rw[if_neg h3];by_cases h7:7<op
 · exact .inr ⟨6,by decide,Ev.AO h3 (Ev.AO (by omega) (Ev.AO (by omega) (Ev.AO (by omega) (Ev.AO (by omega) (Ev.bind (eW _ _ _ _ _ _ _ _ _) (Ev.same rfl))))))⟩
 obtain⟨hq,rfl⟩:=hy ⟨by omega,by omega⟩;by_cases h4:op=4
 · rw[if_pos h4]
   exact .inl ⟨by omega,λz=>by omega,Ev.AO h3 (Ev.AI h4 (Ev.bind (YO hx hq (by omega) (by omega)) (Ev.same rfl))),(wV hx hq).mono (by omega)⟩
 rw[if_neg h4];by_cases h5:op=5
 · rw[if_pos h5]
   exact .inl ⟨by omega,λz=>by omega,Ev.AO h3 (Ev.AO h4 (Ev.AI h5 (Ev.bind (kK hx hq (by omega) (by omega)) (Ev.same rfl)))),(AC8 hx hq).mono (by omega)⟩
 rw[if_neg h5];by_cases h6:op=6
 · rw[if_pos h6]
   exact .inl ⟨by omega,λz=>by omega,Ev.AO h3 (Ev.AO h4 (Ev.AO h5 (Ev.AI h6 (Ev.bind (kL hx hq (by omega) (by omega)) (Ev.same rfl))))),(AC9 hx hq).mono (by omega)⟩
 rw[if_neg h6];have h8:op=7:=by omega
 have D:=TU hx hq (by omega) (by omega);by_cases hz:q=0
 · rw[qo,if_pos hz] at D
   exact .inr ⟨4,by decide,Ev.AO h3 (Ev.AO h4 (Ev.AO h5 (Ev.AO h6 (Ev.AI h8 (Ev.bind D (Ev.bind (eW _ _ _ _ _ _ _ _ _) (Ev.same rfl)))))))⟩
 · rw[qo,if_neg hz] at D
   exact .inl ⟨by omega,λ_=>hz,Ev.AO h3 (Ev.AO h4 (Ev.AO h5 (Ev.AO h6 (Ev.AI h8 (Ev.bind D (Ev.bind (eW _ _ _ _ _ _ _ _ _) (Ev.same rfl))))))),(wW hx hq hz).mono (by omega)⟩
end
end
section
theorem Ww {s s':BT} {op:Int} (h0:3<=op) (h1:op<=10) {x y v:V5} (E1:4<=op/\op<=7->Ev (doF s op x y true) (wv v s')) (E2 : ¬(4<=op/\op<=7)->Ev (doF s op x zV false) (wv v s')):Ev (dY s op x y) (wv v s'):=by
 unfold dY;by_cases hb:4<=op/\op<=7
 · have E:=E1 hb
   rcases(show op=4\/op=5\/op=6\/op=7 by omega) with rfl | rfl | rfl | rfl
   · exact Ev.AO (by decide) (Ev.AI rfl (Ev.bind (Ev.bind E (Ev.same rfl)) (Ev.same rfl)))
   · exact Ev.AO (by decide) (Ev.AO (by decide) (Ev.AI rfl (Ev.bind (Ev.bind E (Ev.same rfl)) (Ev.same rfl))))
   · exact Ev.AO (by decide) (Ev.AO (by decide) (Ev.AO (by decide) (Ev.AI rfl (Ev.bind (Ev.bind E (Ev.same rfl)) (Ev.same rfl)))))
   · exact Ev.AO (by decide) (Ev.AO (by decide) (Ev.AO (by decide) (Ev.AO (by decide) (Ev.AI rfl (Ev.bind (Ev.bind E (Ev.same rfl)) (Ev.same rfl))))))
 · have E:=E2 hb
   rcases(show op=3\/op=8\/op=9\/op=10 by omega) with rfl | rfl | rfl | rfl
   · exact Ev.AI rfl (Ev.bind (Ev.bind E (Ev.same rfl)) (Ev.same rfl))
   · exact Ev.AO (by decide) (Ev.AO (by decide) (Ev.AO (by decide) (Ev.AO (by decide) (Ev.AO (by decide) (Ev.AI rfl (Ev.bind (Ev.bind E (Ev.same rfl)) (Ev.same rfl)))))))
   · exact Ev.AO (by decide) (Ev.AO (by decide) (Ev.AO (by decide) (Ev.AO (by decide) (Ev.AO (by decide) (Ev.AO (by decide) (Ev.AI rfl (Ev.bind (Ev.bind E (Ev.same rfl)) (Ev.same rfl))))))))
   · exact Ev.AO (by decide) (Ev.AO (by decide) (Ev.AO (by decide) (Ev.AO (by decide) (Ev.AO (by decide) (Ev.AO (by decide) (Ev.AO (by decide) (Ev.bind (Ev.bind E (Ev.same rfl)) (Ev.same rfl))))))))
section
variable {m:Int} {met:List Bool} {n:Int} {tie:Bool}
theorem AFZ {c:Int} {x:V5} (h:bK c 0 x) : ∃q,Bd c q/\x=(en q,0,0):=by
 rcases h with⟨_,h⟩ | ⟨h,_⟩
 · exact h
 · exact absurd h (by decide)
theorem AH6 {c:Int} {x:V5} (h:bK c 1 x) : ∃b,U b/\x=(zR,b,0):=by
 rcases h with⟨h,_⟩ | ⟨_,h⟩
 · exact absurd h (by decide)
 · exact h
theorem AJZ {sq:Int->Int} (y8:Z8 sq) (hm:m=0\/m=1) {op:Int} (h0:3<=op) (h1:op<=10) {x y y':V5} {two:Bool} (hx:bK 2560 m x) (hy:4<=op/\op<=7->y'=y/\bK 2560 m y) (hU:U y'.2.1) (hn:0<=n/\n<=1000000) :
 (Ev (doF (BS m met n tie 0) op x y' two) (wv (m6 sq m op x y) (BS m met (n+1) tie 0))/\bK 6000 m (m6 sq m op x y)/\(m=0->op<=7/\(op=7->de y.1≠0)))\/ ∃e,e≠0/\Ev (doF (BS m met n tie 0) op x y' two) (wv zV (BS m met n tie e)):=by
 have w1:wrap64 (n+1)=n+1:=by rw[AE (by omega) (by omega)]
 have w2:wrap64 (n+1-1)=n:=by rw[AE (by omega) (by omega)];omega
 unfold m6 doF;rcases hm with rfl | rfl
 · obtain⟨q,bq,rfl⟩:=AFZ hx
   rw[if_pos rfl];show(Ev _ (wv (en (oq op (de (en q)) (de y.1)),0,0) _)/\_)\/_;rw[eS];have X:=AFY (q:=de y.1) (y:=y'.1) (met:=met) (n:=n+1) (tie:=tie) h0 h1 bq (λh=>by
    obtain⟨rfl,h2⟩:=hy h;obtain⟨r,br,rfl⟩:=AFZ h2;rw[eS];exact⟨br,rfl⟩)
   rcases X with⟨h7,hz,E,hB⟩ | ⟨e,he,E⟩
   · refine .inl ⟨Ev.bind (F8 _ _ _ _ _ _ _ _ _) (Ev.AO uu (Ev.AI rfl ?_)), .inl ⟨rfl,_,hB,rfl⟩,λ_=>⟨h7,hz⟩⟩
     dsimp only[BS];rw[w1];exact Ev.bind E (Ev.step (λk=>AM.zT.eq_2 ..) (Ev.AI rfl (Ev.same rfl)))
   · refine .inr ⟨e,he,Ev.bind (F8 _ _ _ _ _ _ _ _ _) (Ev.AO uu (Ev.AI rfl ?_))⟩
     dsimp only[BS];rw[w1];refine Ev.bind E (Ev.step (λk=>AM.zT.eq_2 ..) (Ev.AO he (Ev.same ?_)));dsimp only[BS,wv,zV];rw[w2]
 · obtain⟨b,ub,rfl⟩:=AH6 hx
   rw[if_neg eY];have E1:=iT y8 (op:=op) ub hU;have ee:fdo sq op b y'.2.1=fdo sq op b y.2.1:=by
    by_cases h:4<=op/\op<=7
    · rw[(hy h).1]
    · exact zQ h
   rw[ee] at E1;refine .inl ⟨Ev.bind (F8 _ _ _ _ _ _ _ _ _) (Ev.AO uu (Ev.AO eY (Ev.AI rfl (Ev.bind E1 (Ev.step (λk=>AM.zT.eq_2 ..) (Ev.AI rfl (Ev.same ?_))))))), .inr ⟨rfl,_, ?_,rfl⟩,λz=>absurd z eY⟩
   · dsimp only[BS,wv]
     rw[w1];rfl
   · rw[<-ee]
     exact AGL y8 ub hU
theorem AHj {sq:Int->Int} (y8:Z8 sq) (hm:m=0\/m=1) {op:Int} (h0:3<=op) (h1:op<=10) {x y:V5} (hx:bK 2560 m x) (hy:4<=op/\op<=7->bK 2560 m y) (hn:0<=n/\n<=1000000) :
 (Ev (dY (BS m met n tie 0) op x y) (wv (m6 sq m op x y) (BS m met (n+1) tie 0))/\bK 6000 m (m6 sq m op x y)/\(m=0->op<=7/\(op=7->de y.1≠0)))\/ ∃e,e≠0/\Ev (dY (BS m met n tie 0) op x y) (wv zV (BS m met n tie e)):=by
 by_cases hb:4<=op/\op<=7
 · rcases AJZ (two:=true) (met:=met) (tie:=tie) y8 hm h0 h1 hx (λh=>⟨rfl,hy h⟩) (AJU (hy hb)) hn with⟨E,r⟩ | ⟨e,he,E⟩
   · exact .inl ⟨Ww h0 h1 (λ_=>E) (λz=>absurd hb z),r⟩
   · exact .inr ⟨e,he,Ww h0 h1 (λ_=>E) (λz=>absurd hb z)⟩
 · rcases AJZ (y:=y) (y':=zV) (two:=false) (met:=met) (tie:=tie) y8 hm h0 h1 hx (λh=>absurd h hb) U_0 hn with⟨E,r⟩ | ⟨e,he,E⟩
   · exact .inl ⟨Ww h0 h1 (λz=>absurd z hb) (λ_=>E),r⟩
   · exact .inr ⟨e,he,Ww h0 h1 (λz=>absurd z hb) (λ_=>E)⟩
theorem AHi (hm:m=0\/m=1) {x y:V5} (hx:bK 2560 m x) (hy:bK 2560 m y) (hl:met.length<=1000) :
 ∃b t,Ev (sR (BS m met n tie 0) x y) (b,BS m (met++ [b]) n t 0):=by
 have hl2:met.length<=1000000:=by omega
 unfold sR;rcases hm with rfl | rfl
 · obtain⟨p,bp,rfl⟩:=AFZ hx
   obtain⟨q,bq,rfl⟩:=AFZ hy;have fs:Fit (p.num*q.den-q.num*p.den) (p.den*q.den):=by
    have:=ACh bp (ACg bq);rw[ARS,<-Int.sub_eq_add_neg] at this;exact ACf this (by omega)
   have C:=AAm (Ic bp (by omega)) (Ic bq (by omega)) fs;generalize AFB (p.num*q.den-q.num*p.den)=c at *;refine⟨decide (c<0),if tie=true then true else c==0,Ev.bind (F8 _ _ _ _ _ _ _ _ _) (Ev.AO uu (Ev.AO (by dsimp only[BS];omega) (Ev.AI rfl (Ev.bind C ?_))))⟩;by_cases h:tie=true
   · rw[if_pos h];exact Ev.AI h (Rm hl2)
   · rw[if_neg h];exact Ev.AO h (Rm hl2)
 · obtain⟨p,bp,rfl⟩:=AH6 hx
   obtain⟨q,bq,rfl⟩:=AH6 hy;refine⟨less p q,if tie=true then true else if less p q=true then false else !(less q p),Ev.bind (F8 _ _ _ _ _ _ _ _ _) (Ev.AO uu (Ev.AO (by dsimp only[BS];omega) (Ev.AO eY (Ev.AI rfl (Ev.AZ (K4 bp bq) ?_)))))⟩;by_cases h:tie=true
   · rw[if_pos h];exact Ev.AI h (Rm hl2)
   rw[if_neg h];refine Ev.AO h ?_;by_cases h2:less p q=true
   · rw[if_pos h2];exact Ev.AI h2 (Rm hl2)
   · rw[if_neg h2];exact Ev.AO h2 (Ev.AZ (K4 bq bp) (Rm hl2))
end
def CS (i:Int) (p:List I6) (ak met:List Bool) (ad n:Int):BT:=(2,i,p,ak,met,ad,n,false,0)
def rv (r:Int):V5:=(zR,0,r)
section
variable {i:Int} {p:List I6} {ak met:List Bool} {ad n:Int}
theorem AFa : ¬(2:Int)=0:=by decide
theorem AFb : ¬(2:Int)=1:=by decide
theorem AAw {α:Type} (a:List α) (x:α):(a++ [x]).length=a.length+1:=by simp
theorem ny (hp:p.length<=1000) (x:I6):Ev (λk=>Br.f k 2 i p ak met ad n false 0 x.1 x.2.1 x.2.2.1 x.2.2.2.1 x.2.2.2.2.1 x.2.2.2.2.2) (wv (rv p.length) (CS i (p++ [x]) ak met ad n)):=by
 refine Ev.AO (by omega) (Ev.AI (by omega) (Ev.same ?_));have e:wrap64 (((p++ [x]).length:Int)-1)=(p.length:Int):=by
  rw[AAw,AE (by omega) (by omega)];omega
 show some (false,[],[],0,wrap64 (((p++ [x]).length:Int)-1),2,i,p++ [x],ak,met,ad,n,false,0)=_;rw[e];rfl
theorem AI9 (hp:p.length<=1000) (hi:0<=i/\i<=1000) (P Q W:Int):Ev (ADN (CS i p ak met ad n) P Q W) (wv (rv p.length) (CS (i+1) (p++ [(1,i,0,false,[],[])]) ak met ad n)):=by
 have w1:wrap64 (i+1)=i+1:=by rw[AE (by omega) (by omega)]
 unfold ADN CS;dsimp only;refine Ev.bind (F8 _ _ _ _ _ _ _ _ _) (Ev.AO uu (Ev.AO AFa (Ev.AO AFb (Ev.bind (ny hp (1,i,0,false,[],[])) (Ev.AI rfl (Ev.same ?_))))));dsimp only[wv,CS];rw[w1]
theorem AJA (hp:p.length<=1000) {P Q:Int} (hP:qH P) (hQ:qH Q) (h:Q≠0):Ev (AAv (CS i p ak met ad n) P Q) (wv (rv p.length) (CS i (p++ [(2,0,0,en ((P:Rat)/(Q:Rat)))]) ak met ad n)):=by
 unfold AAv CS;dsimp only;exact Ev.bind (F8 _ _ _ _ _ _ _ _ _) (Ev.AO uu (Ev.bind ((VP hP hQ).1 h) (Ev.AI rfl (Ev.AO AFa (Ev.AO AFb (Ev.bind (ny hp (2,0,0,en ((P:Rat)/(Q:Rat)))) (Ev.same rfl)))))))
theorem bS {r:Int} (h0:0<=r) (h1:r<p.length) (v:R3) (b:Int):Ev (λk=>CL.f k 2 i p ak met ad n false 0 v.1 v.2.1 v.2.2 b r) (true,CS i p ak met ad n):=Ev.AO (by omega) (Ev.AO (by omega) (Ev.same rfl))
theorem AJa (hp:p.length<=1000) (hn:0<=n/\n<=1000000) (op:Int) {r r2:Int} (h0:0<=r) (h1:r<p.length) {y:V5} {two:Bool} (hy:two=true->y=rv r2/\0<=r2/\r2<p.length) (hz:two=false->r2=0) :
 Ev (doF (CS i p ak met ad n) op (rv r) y two) (wv (rv p.length) (CS i (p++ [(op,r,r2,false,[],[])]) ak met ad (n+1))):=by
 have w1:wrap64 (n+1)=n+1:=by rw[AE (by omega) (by omega)]
 have J : ∀z:I6,Ev (λk=>AM.qG k false [] [] 0 0 false [] [] 0 0 z.1 z.2.1 z.2.2.1 z.2.2.2.1 z.2.2.2.2.1 z.2.2.2.2.2 2 i p ak met ad (n+1) false 0) (wv (rv p.length) (CS i (p++ [z]) ak met ad (n+1))):=λz =>
  Ev.step (λk=>AM.qG.eq_2 ..) (Ev.bind (ny hp z) (Ev.step (λk=>AM.zT.eq_2 ..) (Ev.AI rfl (Ev.same rfl))))
 unfold doF CS;dsimp only;refine Ev.bind (F8 _ _ _ _ _ _ _ _ _) (Ev.AO uu (Ev.AO AFa (Ev.AO AFb ?_)));dsimp only;rw[w1];refine Ev.bind (bS h0 h1 zR 0) (Ev.AI rfl ?_);cases two
 · rw[hz rfl]
   exact Ev.AO ff (Ev.step (λk=>AM.j7.eq_2 ..) (Ev.AO ff (J (op,r,0,false,[],[]))))
 · obtain⟨rfl,h2,h3⟩:=hy rfl
   exact Ev.AI rfl (Ev.bind (bS h2 h3 zR 0) (Ev.AI rfl (Ev.step (λk=>AM.j7.eq_2 ..) (Ev.AI rfl (J (op,r,r2,false,[],[]))))))
theorem ACc (hp:p.length<=1000) (hn:0<=n/\n<=1000000) {op:Int} (h3:3<=op) (h4:op<=10) {r r2:Int} (h0:0<=r) (h1:r<p.length) {y:V5} (hy:4<=op/\op<=7->y=rv r2/\0<=r2/\r2<p.length) (hz : ¬(4<=op/\op<=7)->r2=0) :
 Ev (dY (CS i p ak met ad n) op (rv r) y) (wv (rv p.length) (CS i (p++ [(op,r,r2,false,[],[])]) ak met ad (n+1))) :=
 Ww h3 h4 (λh=>AJa hp hn op h0 h1 (λ_=>hy h) (λz=>absurd z (by decide))) (λh=>AJa hp hn op h0 h1 (λz=>absurd z (by decide)) (λ_=>hz h))
theorem AHg {r r2:Int} (h0:0<=r) (h1:r<p.length) (h2:0<=r2) (h3:r2<p.length) (hm:met.length<=1000) (ha:0<=ad) (hb:ad<ak.length) (hk:ak.length<=1000):Ev (sR (CS i p ak met ad n) (rv r) (rv r2)) (ak.getD ad.toNat false,CS i p ak (met++ [ak.getD ad.toNat false]) (ad+1) n):=by
 have w1:wrap64 (ad+1)=ad+1:=by rw[AE (by omega) (by omega)]
 have w2:wrap64 (ad+1-1)=ad:=by rw[AE (by omega) (by omega)];omega
 have A:Ev (λk=>Dv.f k 2 i p ak met ad n false 0) (ak.getD ad.toNat false,CS i p ak met (ad+1) n):=by
  refine Ev.AO (by omega) ?_;rw[w1,w2];exact Ev.AI ha (Ev.AI hb (Ev.same rfl))
 have J : ∀b:Bool,Ev (λk=>Af.j18 k b 2 i p ak met (ad+1) n false 0) (b,CS i p ak (met++ [b]) (ad+1) n):=λb=>Ev.step (λk=>Af.j18.eq_2 ..) (Ev.AI rfl (Ev.AI (by omega) (Ev.same rfl)))
 unfold sR CS;dsimp only;exact Ev.bind (F8 _ _ _ _ _ _ _ _ _) (Ev.AO uu (Ev.AO (by dsimp only;omega) (Ev.AO AFa (Ev.AO AFb (Ev.bind (bS h0 h1 zR 0) (Ev.AI rfl (Ev.bind (bS h2 h3 zR 0) (Ev.AI rfl (Ev.bind A (J _))))))))))
end
end
section
def gv (l:List V5) (i:Int):V5:=l.getD i.toNat zV
def YR (sq:Int->Int) (m:Int) (F:List I6) (L vals:List V5) (k:Nat):Prop :=
 vals.getD k zV=if(F.getD k zI).1=1 then gv L (F.getD k zI).2.1 else if(F.getD k zI).1=2 then dV m (F.getD k zI).2.2.2 else m6 sq m (F.getD k zI).1 (gv vals (F.getD k zI).2.1) (gv vals (F.getD k zI).2.2.1)
def Fut (sq:Int->Int) (m:Int) (p:List I6) (L:List V5) (n:Nat) (R:List V5->Prop):Prop:= ∀F L' vals,p <+: F->L <+: L'->(∀k<n,YR sq m F L' vals k)->R vals
theorem Fut.mono {sq:Int->Int} {m:Int} {p p':List I6} {L L':List V5} {n n':Nat} {R:List V5->Prop} (h:Fut sq m p L n R) (hp:p <+: p') (hL:L <+: L') (hn:n<=n'):Fut sq m p' L' n' R:=λF M vals h1 h2 h3=>h F M vals (hp.trans h1) (hL.trans h2) λk hk=>h3 k (by omega)
theorem RW {α:Type} {a b:List α} {d:α} (h:a <+: b) {k:Nat} (hk:k<a.length):b.getD k d=a.getD k d:=by
 obtain⟨c,rfl⟩:=h;rw[Cp hk,Cp (by rw[AP3];omega),List.getElem_append_left hk]
theorem JN {α:Type} (a:List α) (x d:α):(a++ [x]).getD a.length d=x:=by
 rw[Cp (by simp)];simp
theorem Bj {α:Type} (a:List α) (x:α):(a++ [x]).length=a.length+1:=by simp
theorem Kv {α:Type} (a:List α) (x:α):a <+: a++ [x]:=⟨[x],rfl⟩
theorem TV {α:Type} {a:List α} {x d:α} {k:Nat} (hk:k<a.length):(a++ [x]).getD k d=a.getD k d:=RW (Kv a x) hk
structure Rel (sq:Int->Int) (m:Int) (p:List I6) (L l yl:List V5):Prop where
 len:yl.length=l.length
 val : ∀j<l.length,∃r:Nat,r<p.length/\yl.getD j zV=rv r/\Fut sq m p L p.length λvals=>vals.getD r zV=l.getD j zV
 fit : ∀k<p.length,MK (p.getD k zI) k/\m8 (p.getD k zI)/\((p.getD k zI).1=1->(p.getD k zI).2.1<L.length)/\(m=0->(p.getD k zI).1<=7)
 div:m=0-> ∀k<p.length,(p.getD k zI).1=7->Fut sq m p L k λvals=>de (gv vals (p.getD k zI).2.2.1).1≠0
theorem Rel.nil (sq:Int->Int) (m:Int):Rel sq m [] [] [] []:=⟨rfl,λj h=>absurd h (by simp),λj h=>absurd h (by simp),λ_ j h=>absurd h (by simp)⟩
theorem Rel.add {sq:Int->Int} {m:Int} {p:List I6} {L l yl L':List V5} (R:Rel sq m p L l yl) (hL:L <+: L') {x:I6} {v:V5} (hv:Fut sq m (p++ [x]) L' (p.length+1) λvals=>vals.getD p.length zV=v)
 (hf:MK x p.length) (hs:m8 x) (hi:x.1=1->x.2.1<L'.length) (h7:m=0->x.1<=7) (hd:m=0->x.1=7->Fut sq m (p++ [x]) L' p.length λvals=>de (gv vals x.2.2.1).1≠0):Rel sq m (p++ [x]) L' (l++ [v]) (yl++ [rv p.length]):=by
 have hp:=Kv p x;have hLl:L.length<=L'.length:=hL.length_le;refine⟨by rw[Bj,Bj,R.len],λj hj=> ?_,λk hk=> ?_,λhm k hk h=> ?_⟩
 · rw[Bj] at hj
   by_cases h:j<l.length
   · obtain⟨r,h1,h2,h3⟩:=R.val j h
     refine⟨r,by rw[Bj];omega,by rw[TV (by rw[R.len];exact h)];exact h2, ?_⟩;rw[TV h];exact h3.mono hp hL (by rw[Bj];omega)
   · have hj2:j=l.length:=by omega
     subst hj2;refine⟨p.length,by rw[Bj];omega,by rw[<-R.len,JN], ?_⟩;rw[JN,Bj];exact hv
 · rw[Bj] at hk
   by_cases h:k<p.length
   · rw[TV h]
     obtain⟨h1,h2,h3,h4⟩:=R.fit k h;exact⟨h1,h2,λz=>by have:=h3 z;omega,h4⟩
   · have hj2:k=p.length:=by omega
     subst hj2;rw[JN];exact⟨hf,hs,hi,h7⟩
 · rw[Bj] at hk
   by_cases h2:k<p.length
   · rw[TV h2] at h ⊢
     exact(R.div hm k h2 h).mono hp hL (by omega)
   · have hj2:k=p.length:=by omega
     subst hj2;rw[JN] at h ⊢;exact hd hm h
theorem eZ {sq:Int->Int} {m:Int} {p:List I6} {L':List V5} {x:I6} {v:V5} (h : ∀F M vals,p++ [x] <+: F->L' <+: M->(∀k<p.length,YR sq m F M vals k)->(if x.1=1 then gv M x.2.1 else if x.1=2 then dV m x.2.2.2 else m6 sq m x.1 (gv vals x.2.1) (gv vals x.2.2.1))=v):Fut sq m (p++ [x]) L' (p.length+1) λvals=>vals.getD p.length zV=v:=by
 intro F M vals hF hM hs;have e:F.getD p.length zI=x:=by rw[RW hF (by rw[Bj];omega),JN]
 have:=hs p.length (by omega);unfold YR at this;rw[e] at this;rw[this];exact h F M vals hF hM λk hk=>hs k (by omega)
theorem Pj {a b:List V5} (h:a <+: b) {i:Int} (h0:0<=i) (h1:i<a.length):gv b i=gv a i:=RW h (by omega)
theorem AME {op:Int} (h:op=3\/(8<=op/\op<=10)):gx op=1:=by unfold gx;rw[if_neg (by omega),if_pos h]
theorem AMF {op:Int} (h:4<=op/\op<=7):gx op=2:=by unfold gx;rw[if_neg (by omega),if_neg (by omega),if_pos h]
theorem sU {op a b:Int} :m8 (op,a,b,false,[],[]):=⟨GI,GI,by simp,by simp⟩
section
variable {sq:Int->Int} {m:Int} {p:List I6} {L l yl:List V5}
theorem Rel.lit (R:Rel sq m p L l yl) (hl:L.length<=1000) (v:V5):Rel sq m (p++ [(1,(L.length:Int),0,false,[],[])]) (L++ [v]) (l++ [v]) (yl++ [rv p.length]) :=
 R.add (Kv L v) (eZ λF M vals hF hM hs=>by
  rw[if_pos rfl];show gv M (L.length:Int)=v;rw[Pj hM (by omega) (by rw[Bj];omega)];show(L++ [v]).getD (L.length:Int).toNat zV=v;rw[APr,JN]) (.inr (.inl ⟨rfl,⟨rfl,rfl,rfl⟩,by dsimp only;omega,by dsimp only;omega,rfl⟩)) sU (λ_=>by rw[Bj];dsimp only;omega) (λ_=>by dsimp only;omega) (λ_ h=>absurd h (show¬(1:Int)=7 by decide))
theorem AH7 {x:Rat} (h:Bd 128 x) (a b c:Int):m8 (a,b,c,en x):=by
 obtain⟨_,_,w1,w2⟩:=wk (Ic h (by omega));refine⟨w1.1,w2.1, ?_⟩;show(en x).2.1.length<=8/\(en x).2.2.length<=8;rw[K5];have a:=AQ (ab x.num);have b:=AQ (x.den:Int);have:=h.2;dsimp only;omega
theorem AJb (x:Rat):RV (en x):=AJE x.num (den_pos x)
theorem Rel.num (R:Rel sq m p L l yl) {x:Rat} (h:Bd 128 x):Rel sq m (p++ [(2,0,0,en x)]) L (l++ [dV m (en x)]) (yl++ [rv p.length]) :=
 R.add (AQ4 L) (eZ λF M vals hF hM hs=>by
  rw[if_neg (by dsimp only;omega),if_pos rfl]) (.inl ⟨rfl,rfl,rfl,AJb x⟩) (AH7 h 2 0 0) (λz=>absurd z (show¬(2:Int)=1 by decide)) (λ_=>by dsimp only;omega) (λ_ h=>absurd h (show¬(2:Int)=7 by decide))
theorem Rel.back (R:Rel sq m p L l yl) {a:Int} (h1:1<=a) (h2:a<=l.length) : ∃r:Nat,r<p.length/\dX yl a=rv r/\Fut sq m p L p.length λvals=>vals.getD r zV=dX l a:=by
 have e:=R.len;unfold dX;rw[if_neg (by omega),if_neg (by omega),if_neg (by omega),if_neg (by omega),e];exact R.val _ (by omega)
theorem Rel.op (R:Rel sq m p L l yl) {K:Int} (h0:3<=K) (h1:K<=10) (hm:m=0->K<=7) {x y:V5} {r r2:Nat} (hr:r<p.length) (qF:r2<p.length) (fx:Fut sq m p L p.length λvals=>vals.getD r zV=x) (fy:4<=K/\K<=7->Fut sq m p L p.length λvals=>vals.getD r2 zV=y)
 (hz : ¬(4<=K/\K<=7)->r2=0) (hd:m=0->K=7->de y.1≠0):Rel sq m (p++ [(K,(r:Int),(r2:Int),false,[],[])]) L (l++ [m6 sq m K x y]) (yl++ [rv p.length]):=by
 refine R.add (AQ4 L) (eZ λF M vals hF hM hs=> ?_) ?_ sU (λz=>by dsimp only at z;omega) hm (λh0 h7 F M vals hF hM hs=> ?_)
 · dsimp only
   rw[if_neg (by omega),if_neg (by omega)];have e1:gv vals (r:Int)=x:=by
    show vals.getD (r:Int).toNat zV=x;rw[APr];exact fx F M vals ((Kv p _).trans hF) hM hs
   rw[e1];by_cases h2:4<=K/\K<=7
   · have e2:gv vals (r2:Int)=y:=by
      show vals.getD (r2:Int).toNat zV=y;rw[APr];exact fy h2 F M vals ((Kv p _).trans hF) hM hs
     rw[e2]
   · exact AFX h2 λz=>by have:=hm z;omega
 · by_cases h2:4<=K/\K<=7
   · exact .inr (.inr (.inr ⟨AMF h2,⟨rfl,rfl,rfl⟩,by dsimp only;omega,by dsimp only;omega,by dsimp only;omega,by dsimp only;omega⟩))
   · exact .inr (.inr (.inl ⟨AME (by omega),⟨rfl,rfl,rfl⟩,by dsimp only;omega,by dsimp only;omega,by have:=hz h2;dsimp only;omega⟩))
 · dsimp only at h7 ⊢
   have e2:gv vals (r2:Int)=y:=by
    show vals.getD (r2:Int).toNat zV=y;rw[APr];exact fy ⟨by omega,by omega⟩ F M vals ((Kv p _).trans hF) hM hs
   rw[e2];exact hd h0 h7
end
end
def w0 (q:Rat):V5:=(en q,0,0)
def w1 (b:Int):V5:=(zR,b,0)
theorem YS {α:Type} (w:α->V5) {l:List α} {d:α} {a:Int} (h0:0<=a) (h1:a<l.length):gv (l.map w) a=w (l.getD a.toNat d):=by
 unfold gv;rw[Cp (by rw[AQi];omega),Cp (by omega),ASB]
theorem sV {l:List Rat} {a:Int} (h0:0<=a) (h1:a<l.length):gv (l.map w0) a=w0 (gq l a):=YS w0 h0 h1
theorem AFc {sq:Int->Int} {m:Int} {F:List I6} {L vals vals':List V5} {k:Nat} (hv:vals <+: vals') (hk:k<vals.length) (hf:MK (F.getD k zI) k) (h:YR sq m F L vals k):YR sq m F L vals' k:=by
 unfold YR at *;rw[RW hv hk,h];rcases Wr hf with h1 | ⟨h1,_⟩ | ⟨h1,h2,h3,h4⟩ | ⟨h1,h2,h3,h4,h5⟩
 · rw[if_pos h1.1,if_pos h1.1]
 · rw[if_neg (by omega),if_pos h1,if_neg (by omega),if_pos h1]
 · rw[if_neg (by omega),if_neg (by omega),if_neg (by omega),if_neg (by omega),Pj hv h2 (by omega),Pj hv (by omega) (by omega)]
 · rw[if_neg (by omega),if_neg (by omega),if_neg (by omega),if_neg (by omega),Pj hv h2 (by omega),Pj hv h4 (by omega)]
theorem sW {sq:Int->Int} {m:Int} {F:List I6} {L vals:List V5} {v:V5} (hf : ∀k≤vals.length,MK (F.getD k zI) k) (h : ∀k<vals.length,YR sq m F L vals k)
 (hv:v=if(F.getD vals.length zI).1=1 then gv L (F.getD vals.length zI).2.1 else if(F.getD vals.length zI).1=2 then dV m (F.getD vals.length zI).2.2.2 else m6 sq m (F.getD vals.length zI).1 (gv vals (F.getD vals.length zI).2.1) (gv vals (F.getD vals.length zI).2.2.1)) : ∀k<vals.length+1,YR sq m F L (vals++ [v]) k:=by
 intro k hk;have hp:=Kv vals v;by_cases h1:k<vals.length
 · exact AFc hp h1 (hf k (by omega)) (h k h1)
 · have h2:k=vals.length:=by omega
   subst h2;have hF:=hf vals.length (by omega);unfold YR;rw[JN];refine hv.trans ?_;rcases Wr hF with h1 | ⟨h1,_⟩ | ⟨h1,h2,h3,h4⟩ | ⟨h1,h2,h3,h4,h5⟩
   · rw[if_pos h1.1,if_pos h1.1]
   · rw[if_neg (by omega),if_pos h1,if_neg (by omega),if_pos h1]
   · rw[if_neg (by omega),if_neg (by omega),if_neg (by omega),if_neg (by omega),Pj hp h2 (by omega),Pj hp (by omega) (by omega)]
   · rw[if_neg (by omega),if_neg (by omega),if_neg (by omega),if_neg (by omega),Pj hp h2 (by omega),Pj hp h4 (by omega)]
theorem AH8 {sq:Int->Int} {p:List I6} {L l yl:List V5} (R:Rel sq 0 p L l yl) {B3:List Rat} (hL:L=B3.map w0) (d:Nat) : ∀(i:Nat) (out:List Rat),i+d=p.length->out.length=i->(∀k<i,YR sq 0 p L (out.map w0) k) ->
 (wX B3 [] (p.drop i) i out 0).2.2=5\/((wX B3 [] (p.drop i) i out 0).2.2=0/\(wX B3 [] (p.drop i) i out 0).1.length=p.length/\ ∀k<p.length,YR sq 0 p L ((wX B3 [] (p.drop i) i out 0).1.map w0) k):=by
 induction d with
 | zero =>
   intro i out h1 h2 h3;rw[ARc (by omega)];exact .inr ⟨rfl,by show out.length=_;omega,λk hk=>h3 k (by omega)⟩
 | succ d ih =>
   intro i out h1 h2 h3;rw[bQ (by omega)];obtain⟨f1,f2,f3,f4⟩:=R.fit i (by omega);have hd:=R.div rfl i (by omega);have lo:(out.map w0).length=i:=(by rw[AQi];exact h2);have ll:L.length=B3.length:=(by rw[hL,AQi]);have key : ∃v,nh (p.getD i zI) out B3 [] 0=(0,v,0)/\w0 v=if(p.getD i zI).1=1 then gv L (p.getD i zI).2.1 else if(p.getD i zI).1=2 then dV 0 (p.getD i zI).2.2.2 else m6 sq 0 (p.getD i zI).1 (gv (out.map w0) (p.getD i zI).2.1) (gv (out.map w0) (p.getD i zI).2.2.1):=by
    have f4:=f4 rfl;have sh:=f2;generalize p.getD i zI=x at *;unfold nh;rcases Wr f1 with⟨o1,o2,_⟩ | ⟨o1,o2,_⟩ | ⟨o1,o2,o3,o4⟩ | ⟨o1,o2,o3,o4,o5⟩
    · have:=f3 o1
      rw[if_pos o1,if_pos (by omega),if_pos o1];exact⟨_,rfl,by rw[hL,sV (l:=B3) o2 (by omega)]⟩
    · have n1 : ¬x.1=1:=by omega
      simp only[if_neg n1,if_pos o1];refine⟨_,rfl, ?_⟩;show(en (de x.2.2.2),(0:Int),(0:Int))=_;rw[ADB sh.1 sh.2.1 o2];rfl
    · have o1:x.1=3:=by omega
      have n1 : ¬x.1=1:=(by omega);have n2 : ¬x.1=2:=(by omega);simp only[if_neg n1,if_neg n2,if_pos o1];rw[sV (l:=out) o2 (by omega)];refine⟨_,rfl, ?_⟩;show _=(en (oq x.1 (de (en _)) _),(0:Int),(0:Int));rw[oq,if_pos o1,eS];rfl
    · have n1 : ¬x.1=1:=by omega
      have n2 : ¬x.1=2:=(by omega);have n3 : ¬x.1=3:=(by omega);have e:m6 sq 0 x.1 (w0 (gq out x.2.1)) (w0 (gq out x.2.2.1))=w0 (oq x.1 (gq out x.2.1) (gq out x.2.2.1)):=by
       show(en (oq x.1 (de (en _)) (de (en _))),(0:Int),(0:Int))=_;rw[eS,eS];rfl
      simp only[if_neg n1,if_neg n2,if_neg n3];rw[sV (l:=out) o2 (by omega),sV (l:=out) o4 (by omega),e,oq];simp only[if_neg n3];by_cases h4:x.1=4
      · simp only[if_pos h4];exact⟨_,rfl,rfl⟩
      simp only[if_neg h4];by_cases h5:x.1=5
      · simp only[if_pos h5];exact⟨_,rfl,rfl⟩
      simp only[if_neg h5];by_cases h6:x.1=6
      · simp only[if_pos h6];exact⟨_,rfl,rfl⟩
      have h7:x.1=7:=(by omega);simp only[if_neg h6,if_pos h7];have:=hd h7 p L (out.map w0) (AQ4 p) (AQ4 L) h3;dsimp only at this;rw[sV (l:=out) o4 (by omega)] at this;have hz : ¬gq out x.2.2.1=0:=λz=>this (by show de (en _)=0;rw[eS];exact z)
      rw[if_neg hz];exact⟨_,rfl,rfl⟩
   obtain⟨v,e1,e2⟩:=key;rw[show wX B3 [] (p.getD i zI::p.drop (i+1)) i out 0=if rb v>4096 then([],(i:Int),5) else wX B3 [] (p.drop (i+1)) (i+1) (out++ [v]) 0 by
    show(if _ then _ else _)=_;rw[e1,if_pos rfl]]
   by_cases hb:rb v>4096
   · rw[if_pos hb]
     exact .inl rfl
   · rw[if_neg hb]
     refine ih (i+1) (out++ [v]) (by omega) (by rw[Bj];omega) ?_;have:=sW (sq:=sq) (m:=0) (F:=p) (L:=L) (vals:=out.map w0) (v:=w0 v) (λk hk=>(R.fit k (by omega)).1) (by rw[lo];exact h3) (by rw[lo];exact e2);rw[lo] at this;rw[AQu];exact this
theorem AH9 {sq:Int->Int} {p:List I6} {L l yl:List V5} (R:Rel sq 1 p L l yl) {B3:List Int} (hL:L=B3.map λb=>w1 (cl b)) (d:Nat) : ∀(i:Nat) (out:List Int),i+d=p.length->out.length=i->(∀k<i,YR sq 1 p L (out.map w1) k) ->
 (fll sq B3 (p.drop i) i out).2.2=0/\(fll sq B3 (p.drop i) i out).1.length=p.length/\ ∀k<p.length,YR sq 1 p L ((fll sq B3 (p.drop i) i out).1.map w1) k:=by
 induction d with
 | zero =>
   intro i out h1 h2 h3;rw[ARc (by omega)];exact⟨rfl,by show out.length=_;omega,λk hk=>h3 k (by omega)⟩
 | succ d ih =>
   intro i out h1 h2 h3;rw[bQ (by omega)];obtain⟨f1,f2,f3,f4⟩:=R.fit i (by omega);have lo:(out.map w1).length=i:=(by rw[AQi];exact h2);have ll:L.length=B3.length:=(by rw[hL,AQi]);have key:w1 (nj sq (p.getD i zI) out B3)=if(p.getD i zI).1=1 then gv L (p.getD i zI).2.1 else if(p.getD i zI).1=2 then dV 1 (p.getD i zI).2.2.2 else m6 sq 1 (p.getD i zI).1 (gv (out.map w1) (p.getD i zI).2.1) (gv (out.map w1) (p.getD i zI).2.2.1):=by
    generalize p.getD i zI=x at *;unfold nj;by_cases o1:x.1=1
    · have h:=f3 o1
      rw[if_pos o1,if_pos o1,hL,YS (d:=0) (l:=B3) (λb=>w1 (cl b)) (by rcases Wr f1 with z | z | z | z<;>omega) (by omega)];rfl
    rw[if_neg o1,if_neg o1];by_cases o2:x.1=2
    · rw[if_pos o2,if_pos o2];rfl
    rw[if_neg o2,if_neg o2];rcases Wr f1 with z | z | z | z
    · omega
    · omega
    · rw[YS (d:=0) (l:=out) w1 (by omega) (by omega),YS (d:=0) (l:=out) w1 (by omega) (by omega)];rfl
    · rw[YS (d:=0) (l:=out) w1 (by omega) (by omega),YS (d:=0) (l:=out) w1 (by omega) (by omega)];rfl
   have hn : ¬((p.getD i zI).1=1/\ ¬(p.getD i zI).2.1<B3.length):=λz=>by have:=f3 z.1;omega
   rw[show fll sq B3 (p.getD i zI::p.drop (i+1)) i out=fll sq B3 (p.drop (i+1)) (i+1) (out++ [nj sq (p.getD i zI) out B3]) from if_neg hn];refine ih (i+1) (out++ [_]) (by omega) (by rw[Bj,h2]) ?_;have:=sW (sq:=sq) (m:=1) (F:=p) (L:=L) (vals:=out.map w1) (v:=w1 (nj sq (p.getD i zI) out B3)) (λk hk=>(R.fit k (by omega)).1) (by rw[lo];exact h3) (by rw[lo];exact key);rw[lo] at this;rw[AQu];exact this
theorem AFd {q:R3} (h1:q.2.1.length<=1000000) (h2:q.2.2.length<=1000000):Ev (λk=>G1.f k q.1 q.2.1 q.2.2 q.1 q.2.1 q.2.2) true:=by
 have S:=Wv (s:=q.1) (s':=q.1) (a:=q.2.1) (b:=q.2.2) (a':=q.2.1) (b':=q.2.2) h1 h2;rw[decide_eq_true rfl] at S;exact S
theorem ADP {m:Int} (hm:m=0\/m=1) {p:List I6} {l yl:List V5} {t t2:List Bool} {v:List R3} {w:List Int} (hl:l.length<=1000000) (hlen:yl.length=l.length) (hs:Szs l)
 (h0:m=0->v.length=p.length/\ ∀j<l.length,∃r:Nat,r<p.length/\yl.getD j zV=rv r/\v.getD r zR=(l.getD j zV).1)
 (h1:m=1->w.length=p.length/\ ∀j<l.length,∃r:Nat,r<p.length/\yl.getD j zV=rv r/\w.getD r 0=(l.getD j zV).2.1) (d:Nat) : ∀i:Nat,i+d=l.length->Ev (λk=>AG.l0 k m p v w (l.length:Int) i l t yl t2) true:=by
 induction d with
 | zero =>
   intro i h;exact Ev.step (λk=>AG.l0.eq_2 ..) (Ev.AO (by omega) (Ev.same rfl))
 | succ d ih =>
   intro i h;have ew:wrap64 ((i:Int)+1)=((i+1:Nat):Int):=(by rw[AE (by omega) (by omega)];omega);have nx:=ih (i+1) (by omega);rw[<-ew] at nx;refine Ev.step (λk=>AG.l0.eq_2 ..) (Ev.AI (by omega) (Ev.AI (by omega) (Ev.AI (by omega) ?_)));rcases hm with rfl | rfl
   · obtain⟨hv,hj⟩:=h0 rfl
     obtain⟨r,r1,r2,r3⟩:=hj i (by omega);have e1:Bz yl (i:Int)=rv r:=(by rw[kM];exact r2);have e2:CI v (r:Int)=(Bz l (i:Int)).1:=(by rw[AGK,kM];exact r3);rw[e1];dsimp only[rv];refine Ev.AO (by omega) (Ev.AO (by omega) (Ev.AI rfl (Ev.AI (by omega) (Ev.AI (by omega) (Ev.AI (by omega) ?_)))));rw[e2];have hz:=hs (l.getD i zV) (by rw[Cp (by omega)];exact AQ5 _);rw[kM];exact Ev.bind (AFd hz.1 hz.2) (Ev.AI rfl (Ev.AO (by decide) nx))
   · obtain⟨hv,hj⟩:=h1 rfl
     obtain⟨r,r1,r2,r3⟩:=hj i (by omega);have e1:Bz yl (i:Int)=rv r:=(by rw[kM];exact r2);have e2:rd w (r:Int)=(Bz l (i:Int)).2.1:=by
      rw[kM];unfold rd;rw[APr];exact r3
     rw[e1];dsimp only[rv];exact Ev.AO (by omega) (Ev.AO (by omega) (Ev.AO eY (Ev.AI rfl (Ev.AI (by omega) (Ev.AI (by omega) (Ev.AI (by omega) (Ev.AI e2 nx)))))))
def iJ (m:Int) (B3:List Rat) (bits:List Int):List V5:=if m=0 then B3.map w0 else bits.map λb=>w1 (cl b)
theorem AIA {l:List Rat} :(l.map en).map de=l:=by
 induction l with
 | nil=>rfl
 | cons x l ih=>rw[AQP,AQP,eS,ih]
theorem AE9 {sq:Int->Int} (y8:Z8 sq) {m:Int} (hm:m=0\/m=1) {p:List I6} {l yl:List V5} {B3:List Rat} {bits:List Int} (R:Rel sq m p (iJ m B3 bits) l yl) (hp:p.length<=60) (hi:B3.length<=1000) (hI : ∀x∈B3,Bd 128 x) (hb:Ws bits) (hl:l.length<=1000000) (hs:Szs l) {t t2:List Bool} :
 Ev (λk=>AG.f k m l t yl t2 p (B3.map en) bits) true:=by
 have hf:AAq p:=λi h=>(R.fit i h).1
 have hS : ∀x∈p,m8 x:=λx hx=>by
  obtain⟨j,hj,rfl⟩:=ASG hx;have:=(R.fit j hj).2.1
  rwa [Cp hj] at this
 have h3 : ∀x∈B3.map en,Sh3 x:=λx hx=>by
  obtain⟨q,hq,rfl⟩:=AQY.1 hx;have B:=hI q hq;obtain⟨_,_,u1,u2⟩:=wk (Ic B (by omega));refine⟨u1.1,u2.1, ?_⟩;rw[K5];have a:=AQ (ab q.num);have b:=AQ (q.den:Int);have:=B.2;dsimp only;omega
 have hR : ∀x∈B3.map en,RV x:=λx hx=>by
  obtain⟨q,hq,rfl⟩:=AQY.1 hx;exact AJb q
 have E1:=ADJ (l:=p) (B3:=B3.map en) (CG:= []) hp hS (by rw[AQi];omega) (by simp) h3 (λx hx=>absurd hx (by simp)) hf hR (λx hx=>absurd hx (by simp));have E2:=ADK y8 hp hS hb hf;rw[AIA] at E1;have J9 : ∀ {v:List R3} {w:List Int},(m=0->v.length=p.length/\ ∀j<l.length,∃r:Nat,r<p.length/\yl.getD j zV=rv r/\v.getD r zR=(l.getD j zV).1)->(m=1->w.length=p.length/\ ∀j<l.length,∃r:Nat,r<p.length/\yl.getD j zV=rv r/\w.getD r 0=(l.getD j zV).2.1)->Ev (λk=>AG.j9 k m p v w l t yl t2) true:=λa b =>
  Ev.step (λk=>AG.j9.eq_2 ..) (ADP hm hl R.len hs a b l.length 0 (by omega))
 refine Ev.AI (by rw[R.len]) (Ev.bind E1 (Ev.bind E2 ?_));rcases hm with rfl | rfl
 · refine Ev.AI rfl ?_
   have X:=AH8 (B3:=B3) R rfl p.length 0 [] (by omega) rfl (λk hk=>absurd hk (by omega));show Ev (λk=>if(wX B3 [] p 0 [] 0).2.2=0 then _ else _) true;rw[ARh] at X;rcases X with h | ⟨a1,a2,a3⟩
   · exact Ev.AO (by omega) (Ev.same (by show some ((wX B3 [] p 0 [] 0).2.2==5)=_;rw[h];rfl))
   · refine Ev.AI a1 (Ev.step (λk=>AG.j7.eq_2 ..) (Ev.AI rfl (Ev.AI (by show(((wX B3 [] p 0 [] 0).1.map en).length:Int)=_;rw[AQi];omega) (Ev.AO (by decide) (J9 (λ_=>⟨by show((wX B3 [] p 0 [] 0).1.map en).length=_;rw[AQi];exact a2,λj hj=> ?_⟩) (λz=>absurd z (by decide)))))))
     obtain⟨r,r1,r2,r3⟩:=R.val j hj;refine⟨r,r1,r2, ?_⟩;have:=r3 p _ _ (AQ4 p) (AQ4 _) a3;dsimp only at this;rw[<-this];show((wX B3 [] p 0 [] 0).1.map en).getD r zR=(((wX B3 [] p 0 [] 0).1.map w0).getD r zV).1;rw[Cp (by rw[AQi];omega),Cp (by rw[AQi];omega),ASB,ASB];rfl
 · refine Ev.AO eY ?_
   have X:=AH9 (B3:=bits) R rfl p.length 0 [] (by omega) rfl (λk hk=>absurd hk (by omega));rw[ARh] at X;obtain⟨a1,a2,a3⟩:=X;refine Ev.step (λk=>AG.j7.eq_2 ..) (Ev.AO eY (Ev.AI rfl (Ev.AI a1 (Ev.AI (by rw[a2]) (J9 (λz=>absurd z (by decide)) (λ_=>⟨a2,λj hj=> ?_⟩))))));obtain⟨r,r1,r2,r3⟩:=R.val j hj;refine⟨r,r1,r2, ?_⟩;have:=r3 p _ _ (AQ4 p) (AQ4 _) a3;dsimp only at this;rw[<-this,Cp (by omega),Cp (by rw[AQi];omega),ASB];rfl
section
theorem ADQ {q:R3} (h1:q.2.1.length<=1000000) (h2:q.2.2.length<=1000000):Ev (λk=>GY.f k q.1 q.2.1 q.2.2) q:=Ev.AI (by simp;omega) (Ev.AI (by simp;omega) (Ev.same rfl))
theorem AAf {p:List I6} (hp:p.length<=1000) (hs : ∀x∈p,m8 x) {m i:Int} {ak met:List Bool} {ad n:Int} {tie:Bool} {e:Int} (d:Nat) : ∀j:Nat,j+d=p.length->Ev (λk=>Aj.l0 k (p.take j) p (p.length:Int) j m i ak met ad n tie e) (p,m,i,p,ak,met,ad,n,tie,e):=by
 induction d with
 | zero =>
   intro j h;exact Ev.step (λk=>Aj.l0.eq_2 ..) (Ev.AO (by omega) (Ev.same (by rw[AP5 (by omega)])))
 | succ d ih =>
   intro j h;have ew:wrap64 ((j:Int)+1)=((j+1:Nat):Int):=(by rw[AE (by omega) (by omega)];omega);have sx:m8 (p.getD j zI):=(by rw[Cp (by omega)];exact hs _ (AQ5 _));refine Ev.step (λk=>Aj.l0.eq_2 ..) (Ev.AI (by omega) (Ev.AI (by omega) (Ev.AI (by omega) ?_)));rw[zM];refine Ev.bind (ADQ (by have:=sx.2.2.1;omega) (by have:=sx.2.2.2;omega)) (Ev.AI (by rw[APx];omega) ?_);have nx:=ih (j+1) (by omega);rw[<-ew,List.take_add_one,AP4 (by omega),<-Cp (d:=zI) (by omega)] at nx;exact nx
def l0F (m:Int) (Ad:List A6) (B3:List R3) (bits:List Int) (i:Int) (l:List V5) (t:List Bool) (s:BT) (k:Nat):Option Bool:=AL.l0 k m Ad B3 bits (Ad.length:Int) i l t [] [] s.1 s.2.1 s.2.2.1 s.2.2.2.1 s.2.2.2.2.1 s.2.2.2.2.2.1 s.2.2.2.2.2.2.1 s.2.2.2.2.2.2.2.1 s.2.2.2.2.2.2.2.2
def l1F (m:Int) (Ad:List A6) (B3:List R3) (bits:List Int) (i:Int) (l:List V5) (t:List Bool) (yl:List V5) (t2:List Bool) (s c:BT) (k:Nat):Option Bool:=AL.l1 k m Ad B3 bits (Ad.length:Int) i l t yl t2 s.1 s.2.1 s.2.2.1 s.2.2.2.1 s.2.2.2.2.1 s.2.2.2.2.2.1 s.2.2.2.2.2.2.1 s.2.2.2.2.2.2.2.1 s.2.2.2.2.2.2.2.2 c.1 c.2.1 c.2.2.1 c.2.2.2.1 c.2.2.2.2.1 c.2.2.2.2.2.1 c.2.2.2.2.2.2.1 c.2.2.2.2.2.2.2.1 c.2.2.2.2.2.2.2.2
def ADR (a:A6) (s:BT) (l:List V5) (t:List Bool):Nat->Option Z9:=stF a.1 a.2.1 a.2.2.1 a.2.2.2.1 a.2.2.2.2.1 a.2.2.2.2.2 s l t
section
variable {m:Int} {Ad:List A6} {B3:List R3} {bits:List Int} {i:Nat} {l l':List V5} {t t':List Bool} {s s':BT}
theorem wI (hi:i<Ad.length) (hL:Ad.length<=60):wrap64 ((i:Int)+1)=((i+1:Nat):Int):=by rw[AE (by omega) (by omega)];omega
theorem ACe (hs:Ev (λk=>AR.f k) true) (hi:i<Ad.length) (hK:(Ad.getD i zA).1≠0) (E:Ev (ADR (Ad.getD i zA) s l t) (oS s' l' t')) (he:s'.2.2.2.2.2.2.2.2≠0):Ev (l0F m Ad B3 bits i l t s) true:=by
 refine Ev.step (λk=>AL.l0.eq_2 ..) (Ev.AI (by omega) (Ev.AI (by omega) (Ev.AI (by omega) ?_)));rw[zS];exact Ev.AO hK (Ev.bind E (Ev.bind (a:=(s'.2.2.2.2.2.2.2.2,s')) ⟨0,λ_ _=>rfl⟩ (Ev.AO he (Ev.bind hs (Ev.same rfl)))))
theorem bL (hs:Ev (λk=>AR.f k) true) (hL:Ad.length<=60) (hi:i<Ad.length) (hK:(Ad.getD i zA).1≠0) (E:Ev (ADR (Ad.getD i zA) s l t) (oS s' l' t')) (he:s'.2.2.2.2.2.2.2.2=0) (hl:l'.length<=1000000)
 (nx:(∀v∈l',(v.1.2.1.length:Int)<=40/\(v.1.2.2.length:Int)<=40)->Ev (l0F m Ad B3 bits (i+1:Nat) l' t' s') true):Ev (l0F m Ad B3 bits i l t s) true:=by
 obtain⟨r,R1,R2⟩:=ADL (l:=l') (t:=t') hl;refine Ev.step (λk=>AL.l0.eq_2 ..) (Ev.AI (by omega) (Ev.AI (by omega) (Ev.AI (by omega) ?_)));rw[zS];refine Ev.AO hK (Ev.bind E (Ev.bind (a:=(s'.2.2.2.2.2.2.2.2,s')) ⟨0,λ_ _=>rfl⟩ (Ev.AI he (Ev.bind R1 ?_))));cases r
 · refine Ev.AO (by decide) ?_
   rw[wI hi hL];exact nx (R2 rfl)
 · exact Ev.AI rfl (Ev.bind hs (Ev.same rfl))
theorem AHh (hs:Ev (λk=>AR.f k) true) (hL:Ad.length<=60) (hi:i<Ad.length) (hK:(Ad.getD i zA).1=0) (ha:AOk (Ad.getD i zA)) (li:B3.length<=1000) (lb:bits.length<=1000) (E:(Ad.getD i zA).2.2.2.2.1≠0->Ev (ADR (Ad.getD i zA) s l t) (oS s' l' t')) (he:s'.2.2.2.2.2.2.2.2=0) (hl:l'.length<=1000000)
 (nx:(Ad.getD i zA).2.2.2.2.1≠0->Ev (l0F m Ad (B3++ [en (((Ad.getD i zA).2.2.2.1:Rat)/((Ad.getD i zA).2.2.2.2.1:Rat))]) (bits++ [(Ad.getD i zA).2.2.2.2.2]) (i+1:Nat) l' t' s') true):Ev (l0F m Ad B3 bits i l t s) true:=by
 obtain⟨r,R1,R2⟩:=ADL (l:=l') (t:=t') hl;refine Ev.step (λk=>AL.l0.eq_2 ..) (Ev.AI (by omega) (Ev.AI (by omega) (Ev.AI (by omega) ?_)));rw[zS];refine Ev.AI hK ?_;by_cases hq:(Ad.getD i zA).2.2.2.2.1=0
 · exact Ev.AI hq (Ev.bind hs (Ev.same rfl))
 have e1:=VO ha.1.1 ha.1.2;have e2:=VO ha.2.1.1 ha.2.1.2;rw[zP] at e1 e2;have e3:=sM (Wt ha.1.1 ha.1.2) (Wt ha.2.1.1 ha.2.1.2) (by omega) (by omega) (λz=>hq (by exact_mod_cast z));refine Ev.AO hq (Ev.bind e1 (Ev.bind e2 (Ev.bind e3 (Ev.AI (by omega) (Ev.AI (by omega) (Ev.bind (E hq) (Ev.bind (a:=(s'.2.2.2.2.2.2.2.2,s')) ⟨0,λ_ _=>rfl⟩ (Ev.AI he (Ev.bind R1 ?_)))))))));cases r
 · refine Ev.AO (by decide) ?_
   rw[wI hi hL];exact nx hq
 · exact Ev.AI rfl (Ev.bind hs (Ev.same rfl))
theorem AFe {yl yl':List V5} {t2 t2':List Bool} {c c':BT} (hL:Ad.length<=60) (hi:i<Ad.length) (E:Ev (ADR (Ad.getD i zA) c yl t2) (oS c' yl' t2')) (nx:Ev (l1F m Ad B3 bits (i+1:Nat) l t yl' t2' s c') true):Ev (l1F m Ad B3 bits i l t yl t2 s c) true:=by
 refine Ev.step (λk=>AL.l1.eq_2 ..) (Ev.AI (by omega) (Ev.AI (by omega) (Ev.AI (by omega) ?_)));rw[zS];refine Ev.bind E ?_;rw[wI hi hL];exact nx
end
def Com (Ad:List A6) (i:Nat) (met:List Bool) (c:List Bool->BT) (yl:List V5) (t2:List Bool):Prop :=
 ∀asks:List Bool,met <+: asks->asks.length<=1000-> ∀(m:Int) (B3:List R3) (bits:List Int) (l:List V5) (t:List Bool) (s:BT),Ev (l1F m Ad B3 bits i l t yl t2 s (c asks)) true->Ev (l1F m Ad B3 bits (0:Nat) l t [] [] s (CS 0 [] asks [] 0 0)) true
theorem Com.next {Ad:List A6} {i:Nat} {met met':List Bool} {c c':List Bool->BT} {yl yl':List V5} {t2 t2':List Bool} (C:Com Ad i met c yl t2) (hL:Ad.length<=60) (hi:i<Ad.length) (hp:met <+: met') (E : ∀asks,met' <+: asks->asks.length<=1000->Ev (ADR (Ad.getD i zA) (c asks) yl t2) (oS (c' asks) yl' t2')):Com Ad (i+1) met' c' yl' t2' :=
 λasks h1 h2 m B3 bits l t s X=>C asks (hp.trans h1) h2 m B3 bits l t s (AFe hL hi (E asks h1 h2) X)
end
end Go.Proofs.YtjocbnjpjihpnaaGreat.M
