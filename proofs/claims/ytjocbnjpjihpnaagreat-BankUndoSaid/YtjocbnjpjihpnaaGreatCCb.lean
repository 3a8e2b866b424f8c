/- What the functions answer, over plain numbers. -/
import Derived.Test.YtjocbnjpjihpnaaGreatBB
import Derived.Test.YtjocbnjpjihpnaaGreatCCa
import Derived.Test.YtjocbnjpjihpnaaGreatFgradinelaw18Step
import Derived.Test.YtjocbnjpjihpnaaGreatFgradinelaw18long
import Derived.Test.YtjocbnjpjihpnaaGreatFgradinelaw18same
import Derived.Test.YtjocbnjpjihpnaaGreatFgradinelaw18does
import Derived.Test.YtjocbnjpjihpnaaGreatFgradinelaw18BankUndo
namespace Go.Proofs.YtjocbnjpjihpnaaGreat.M
open Go.RowKit Go.Proofs.YtjocbnjpjihpnaaGreat.P Go.Proofs.YtjocbnjpjihpnaaGreatW.AD Go.Proofs.YtjocbnjpjihpnaaGreatW.AR Go.Proofs.YtjocbnjpjihpnaaGreatW.AY
set_option linter.unusedVariables false
theorem ZI {x:Int} (hx:0<=x) (bx:bl x<=60000):Ev (λk=>Ah.f k (dg x)) (dg x):=by
 have T:=Ch (l:=dg x) (Bg (by omega));rw[Aa hx] at T;exact T
theorem AE9 (S:Int) {D:Int} (hD:0<D):Rq (-S) D=(decide (0<S),(Rq S D).2.1,(Rq S D).2.2):=by
 have e:ab (-S)=ab S:=by unfold ab;split<;>split<;>omega
 unfold Rq;rw[e];by_cases h:S=0
 · rw[if_pos h,if_pos (by omega),decide_eq_false (by omega)]
 · rw[if_neg h,if_neg (by omega)]
   congr 1
   exact decide_eq_decide.2 (by omega)
theorem fT {S D:Int} (h:Fit S D):Ev (λk=>Jr.f k (Rq S D).1 (Rq S D).2.1 (Rq S D).2.2) (Rq (-S) D):=by
 rw[AE9 S h.1];obtain⟨N,E,h1,h2,h3,h4,h5,h6,h7⟩:=rm h;rw[h1];dsimp only;have T1:=ZI h2 (by omega);have T2:=ZI (ANL h3) (by omega);have lN:=AW N;have B:=F0 (l:=dg N) (Bg (by omega));rw[Aa h2] at B;by_cases hs:S<0
 · rw[decide_eq_true hs,decide_eq_false (show¬0<S by omega)]
   exact Ev.AK rfl (Ev.bind T1 (Ev.bind T2 (Ev.same rfl)))
 · rw[decide_eq_false hs]
   refine Ev.AP (by decide) (Ev.bind B (Ev.bind T1 (Ev.bind T2 (Ev.same ?_))))
   congr 2
   refine decide_eq_decide.2 ?_;rcases(show N=0\/0<N by omega) with k | k
   · rw[k,Kn];have:=h7.1 k;omega
   · have:=DY k;have:S≠0:=λq=>by have:=h7.2 q;omega
     omega
theorem fU {S D S' D':Int} (h:Fit S D) (h':Fit S' D'):Ev (λk=>Js.f k (Rq S D).1 (Rq S D).2.1 (Rq S D).2.2 (Rq S' D').1 (Rq S' D').2.1 (Rq S' D').2.2) (Rq (S*D'-S'*D) (D*D')):=by
 refine Ev.bind (fT h') (Ev.bind (fW h (ACf h')) (Ev.same ?_));rw[AO0];rfl
theorem wY {S D:Int} (h:Fit S D):Ev (λk=>Gk.f k (Rq S D).1 (Rq S D).2.1 (Rq S D).2.2) (ACg S):=by
 obtain⟨N,E,h1,h2,h3,h4,h5,h6,h7⟩:=rm h;rw[h1];have G:=Tn (a:=dg N) (b:=dg E) (decide (S<0)) (Bg (by omega));refine Ev.dF G ?_;rw[Aa h2];unfold ACg;by_cases hz:S=0
 · rw[if_pos (h7.2 hz),if_pos hz]
 · rw[if_neg (λk=>hz (h7.1 k)),if_neg hz]
   by_cases hs:S<0
   · rw[if_pos hs,if_pos (decide_eq_true hs)]
   · rw[if_neg hs,if_neg (by rw[decide_eq_false hs];decide)]
def Fb (n S D:Int):Prop:=0<D/\bl (ab S)<=n/\bl D<=n
theorem AAE {n S D:Int} (h:Fb n S D) (hn:n<=14000):Fit S D:=⟨h.1,by have:=h.2.1;omega,by have:=h.2.2;omega⟩
theorem ACh (x y:Int):ab (x*y)=ab x*ab y:=by
 rcases AN7 y 0 with h | h
 · have e:x*y=(-x)*(-y):=by rw[Int.neg_mul_neg]
   have a1:ab (-x)=ab x:=(by unfold ab;split<;>split<;>omega);have a2:ab y= -y:=(by unfold ab;rw[if_pos h]);rw[e,WX _ (show 0 < -y by omega),a1,a2]
 · rcases(show y=0\/0<y by omega) with k | k
   · rw[k,AOR,show ab 0=0 from rfl,AOR]
   · rw[WX _ k]
     have:ab y=y:=(by unfold ab;rw[if_neg (by omega)]);rw[this]
theorem AFA (x y:Int):ab (x+y)<=ab x+ab y:=by unfold ab;split<;>split<;>split<;>omega
theorem AAF {n S D:Int} (h:Fb n S D):Fb n (-S) D:=by
 have:ab (-S)=ab S:=by unfold ab;split<;>split<;>omega
 unfold Fb;rw[this];exact h
theorem AAG {n m S D S' D':Int} (h:Fb n S D) (h':Fb m S' D'):Fb (n+m+1) (S*D'+S'*D) (D*D'):=by
 have e1:ab (S*D')=ab S*D':=WX S h'.1;have e2:ab (S'*D)=ab S'*D:=WX S' h.1;have b1:=F1 (DN S) (ANL h'.1);have b2:=F1 (DN S') (ANL h.1);have b3:=F1 (ANL h.1) (ANL h'.1);have hh:=h.2;have hh':=h'.2;have n1:0<=ab S*D':=ANZ (DN S) (ANL h'.1);have n2:0<=ab S'*D:=ANZ (DN S') (ANL h.1);have b4:=WY n1 n2 (m:=n+m) (by omega) (by omega);have a:=AFA (S*D') (S'*D);rw[e1,e2] at a;have:=Bv a;exact⟨AOY h.1 h'.1,by omega,by omega⟩
theorem AAH {n m S D S' D':Int} (h:Fb n S D) (h':Fb m S' D'):Fb (n+m) (S*S') (D*D'):=by
 have b1:=F1 (DN S) (DN S');have b3:=F1 (ANL h.1) (ANL h'.1);have hh:=h.2;have hh':=h'.2;refine⟨AOY h.1 h'.1, ?_,by omega⟩;rw[ACh];omega
theorem ACi (s s':Bool) (x y:Int):He s x*He s' y=He (s !=s') (x*y):=by
 unfold He;cases s<;>cases s'<;>simp[AO0,Int.mul_neg]
theorem wZ {S D S' D':Int} (h:wj S D) (h':wj S' D'):Ev (λk=>Im.f k (Rq S D).1 (Rq S D).2.1 (Rq S D).2.2 (Rq S' D').1 (Rq S' D').2.1 (Rq S' D').2.2) (Rq (S*S') (D*D')):=by
 obtain⟨N,E,h1,h2,h3,h4,h5,h6,h7⟩:=ZJ h;obtain⟨N',E',k1,k2,k3,k4,k5,k6,k7⟩:=ZJ h';rw[h1,k1];dsimp only;have lN:=AW N;have lE:=AW E;have lN':=AW N';have lE':=AW E';have R1:=OD (a:=dg N) (b:=dg E') (Bg (by omega)) (Bg (by omega)) (by omega) (by omega);have R2:=OD (a:=dg N') (b:=dg E) (Bg (by omega)) (Bg (by omega)) (by omega) (by omega);rw[Aa h2,Aa (ANL k3)] at R1;rw[Aa k2,Aa (ANL h3)] at R2;have g1:=uh h2 k3;have g2:=uh k2 h3;have s1:=Gl h2 (ANL k3);have s2:=Gl k2 (ANL h3);have p1:=OE (a:=N) (b:=E') (.inr k3);have p2:=OE (a:=N') (b:=E) (.inr h3);have dd:0<D*D':=AOY h.1 h'.1;generalize N/gc N E'=n1 at *;generalize E'/gc N E'=e1 at *;generalize N'/gc N' E=n2 at *;generalize E/gc N' E=e2 at *;have m1:=Bv g1.1;have m2:=Bv g1.2.1;have m3:=Bv g2.1;have m4:=Bv g2.2.1;have M1:=XX (x:=n1) (y:=n2) g1.2.2.2 g2.2.2.2 (by omega) (by omega);have M2:=XX (x:=e2) (y:=e1) (ANL g2.2.2.1) (ANL g1.2.2.1) (by omega) (by omega);have b1:=F1 g1.2.2.2 g2.2.2.2;have b2:=F1 (ANL g2.2.2.1) (ANL g1.2.2.1);have d0:0<e2*e1:=AOY g2.2.2.1 g1.2.2.1;have n0:0<=n1*n2:=ANZ g1.2.2.2 g2.2.2.2;refine Ev.bind (OG k3 (by omega)) (Ev.bind R1 (Ev.bind (OG h3 (by omega)) (Ev.bind R2 (Ev.bind M1 (Ev.bind M2 (Ev.bind (WZ _ n0 d0 (by omega) (by omega)) (Ev.same ?_)))))));have e:Rq (He (decide (S<0) !=decide (S'<0)) (n1*n2)) (e2*e1)=Rq (S*S') (D*D'):=by
  refine fX d0 dd ?_;generalize gc N E'=g at *;generalize gc N' E=g' at *;have q:0<g*g':=AOY p1 p2;refine AO2 (show g*g'≠0 by omega) ?_;rw[<-ACi];have t1:He (decide (S<0)) N=He (decide (S<0)) n1*g:=by rw[<-s1.1];unfold He;cases decide (S<0)<;>simp[AO0]
  have t2:He (decide (S'<0)) N'=He (decide (S'<0)) n2*g':=by rw[<-s2.1];unfold He;cases decide (S'<0)<;>simp[AO0]
  rw[t1,<-s2.2] at h6;rw[t2,<-s1.2] at k6;generalize He (decide (S<0)) n1=σ at *;generalize He (decide (S'<0)) n2=σ' at *;have a1:σ*σ'*(D*D')*(g*g')=(σ*g*D)*(σ'*g'*D'):=by grind
  have a2:S*S'*(e2*e1)*(g*g')=(S*(e2*g'))*(S'*(e1*g)):=by grind
  rw[a1,a2,h6,k6]
 rw[<-e]
theorem fY {S D S' D':Int} (h:Fit S D) (h':Fit S' D'):Ev (λk=>Im.f k (Rq S D).1 (Rq S D).2.1 (Rq S D).2.2 (Rq S' D').1 (Rq S' D').2.1 (Rq S' D').2.2) (Rq (S*S') (D*D')):=wZ h.big h'.big
def IS (S D:Int):Int:=He (decide (S<0)) D
theorem AAI {n S D:Int} (h:Fb n S D) (hS:S≠0):Fb n (IS S D) (ab S):=by
 have:=DN S;have h1:ab S≠0:=λk=>hS (Ro.1 k)
 have:ab (IS S D)=D:=by
  have:=h.1;unfold IS ab He;split<;>split<;>omega
 exact⟨by omega,by rw[this];exact h.2.2,h.2.1⟩
theorem ACj {S D:Int} (h:Fit S D) (hS:S≠0):Fit (IS S D) (ab S):=by
 have:=AAI (n:=14000) (S:=S) (D:=D) ⟨h.1,h.2.1,h.2.2⟩ hS;exact⟨this.1,this.2.1,this.2.2⟩
theorem wk {S D:Int} (h:Fit S D):Ev (λk=>OH.f k (Rq S D).1 (Rq S D).2.1 (Rq S D).2.2) (if S=0 then(false,[],[],4) else((Rq (IS S D) (ab S)).1,(Rq (IS S D) (ab S)).2.1,(Rq (IS S D) (ab S)).2.2,0)):=by
 obtain⟨N,E,h1,h2,h3,h4,h5,h6,h7,h8⟩:=U5 S h.1;have b1:=Bv h4;have b2:=Bv h5;have hh:=h.2;rw[h1];dsimp only;have B:=F0 (l:=dg N) (Bg (by omega));rw[Aa h2] at B;refine Ev.bind B ?_;by_cases hz:S=0
 · rw[if_pos hz]
   exact Ev.AK (by rw[h7.2 hz];rfl) (Ev.same rfl)
 · rw[if_neg hz]
   have hN:0<N:=by
    have:N≠0:=λk=>hz (h7.1 k)
    omega
   have:=DY hN;refine Ev.AP (by omega) (Ev.bind (ZI (ANL h3) (by omega)) (Ev.bind (ZI h2 (by omega)) (Ev.same ?_)));have e:Rq (IS S D) (ab S)=(decide (S<0),dg E,dg N):=by
    have a0:0<ab S:=by
     have:=DN S;have:ab S≠0:=λk=>hz (Ro.1 k)
     omega
    have e1:Rq (IS S D) (ab S)=Rq (He (decide (S<0)) E) N:=by
     refine fX a0 hN ?_;unfold IS He;cases decide (S<0)
     · simp only[AQK,if_false];rw[ANY,h6,ANY]
     · simp only[if_true];rw[AO0,AO0,ANY,h6,ANY]
    rw[e1,ADk _ h3,Ip,h8,AON,AON]
   rw[e]
theorem wm {S D S' D':Int} (h:Fit S D) (h':Fit S' D'):Ev (λk=>Jt.f k (Rq S D).1 (Rq S D).2.1 (Rq S D).2.2 (Rq S' D').1 (Rq S' D').2.1 (Rq S' D').2.2) (if S'=0 then(false,[],[],4) else((Rq (S*IS S' D') (D*ab S')).1,(Rq (S*IS S' D') (D*ab S')).2.1,(Rq (S*IS S' D') (D*ab S')).2.2,0)):=by
 refine Ev.bind (wk h') ?_;by_cases hz:S'=0
 · rw[if_pos hz,if_pos hz]
   exact Ev.AP (by decide) (Ev.same rfl)
 · rw[if_neg hz,if_neg hz]
   exact Ev.AK rfl (Ev.bind (fY h (ACj h' hz)) (Ev.same rfl))
theorem wo {S D S' D':Int} (h:Fit S D) (h':Fit S' D') (hF:Fit (S*D'-S'*D) (D*D')):Ev (λk=>OI.f k (Rq S D).1 (Rq S D).2.1 (Rq S D).2.2 (Rq S' D').1 (Rq S' D').2.1 (Rq S' D').2.2) (ACg (S*D'-S'*D)) :=
 Ev.bind (fU h h') (Ev.bind (wY hF) (Ev.same rfl))
theorem AAJ {a b G:Int} (hG:0<G) (hq:a/G=b/G) (hz:a%G=0↔b%G=0):(-a)/G=(-b)/G/\((-a)%G=0↔(-b)%G=0):=by
 have key : ∀x:Int,(x%G=0->(-x)/G= -(x/G)/\(-x)%G=0)/\(x%G≠0->(-x)/G= -(x/G)-1/\(-x)%G=G-x%G):=by
  intro x;have h1:=ANa x G;have h2:=ANk x (show G≠0 by omega);have h3:=ANh x hG;constructor
  · intro h
    exact(AP3 hG).2 ⟨by rw[Int.mul_neg];omega,by omega,by omega⟩
  · intro h
    exact(AP3 hG).2 ⟨by rw[Int.mul_sub,Int.mul_neg,ANr];omega,by omega,by omega⟩
 have ka:=key a;have kb:=key b;have b3:=ANh b hG;have a3:=ANh a hG;by_cases h:a%G=0
 · have h':=hz.1 h
   exact⟨by rw[(ka.1 h).1,(kb.1 h').1,hq],by simp[(ka.1 h).2,(kb.1 h').2]⟩
 · have h':=λk=>h (hz.2 k)
   refine⟨by rw[(ka.2 h).1,(kb.2 h').1,hq], ?_⟩;rw[(ka.2 h).2,(kb.2 h').2];omega
theorem nY {a b G:Int} (K:Int) (hq:a/G=b/G) (hz:a%G=0↔b%G=0) (hG:0<G):(G*K+a)/G=(G*K+b)/G/\((G*K+a)%G=0↔(G*K+b)%G=0):=by
 rw[AOy (G*K),AOy (G*K),AOA _ _ (by omega),AOA _ _ (by omega),AOI,AOI];exact⟨by rw[hq],hz⟩
theorem ADl {n:Int} (h0:0<=n) (s:Nat):st n s<=n/2^s+1:=by
 unfold st;split<;>omega
theorem AFB {m e n f:Int} (hm0:0<=m) (hm:m<9007199254740992) (hn0:0<=n) (hn:n<9007199254740992) (hef:f<=e) (hf : -1074<=f) (hw:e= -1074\/4503599627370496<=m) {up s:Nat} (hup:(up:Int)=min (e-f) 10) (hs:e-up-f=s) :
 Rd (m*2^up+st n s) (e-up)=Rd (m*2^(e-f).toNat+n) f /\
 (m*2^up>st n s↔m*2^(e-f).toNat>n)/\(m*2^up<st n s↔m*2^(e-f).toNat<n) /\
 (m*2^up>st n s->Rd (m*2^up-st n s) (e-up)=Rd (m*2^(e-f).toNat-n) f) /\
 (m*2^up<st n s->Rd (st n s-m*2^up) (e-up)=Rd (n-m*2^(e-f).toNat) f):=by
 rcases(show s=0\/0<s by omega) with rfl | hs0
 · rw[ACk,show(e-f).toNat=up by omega,show e-(up:Int)=f by omega]
   exact⟨rfl,Iff.rfl,Iff.rfl,λ_=>rfl,λ_=>rfl⟩
 · obtain rfl:up=10:=by omega
   have hm2:4503599627370496<=m:=(by omega);have hG:(0:Int)<2^s:=pow_pos s;have hG2:(0:Int)<2^(s+1):=pow_pos _;have hge:(2:Int)<=2^s:=by
    have:=Az (a:=1) (b:=s) (by omega);omega
   have eX:m*2^(e-f).toNat=2^(s+1)*(m*512):=by
    rw[show(e-f).toNat=s+1+9 by omega,ANl];generalize (2:Int)^(s+1)=G;rw[show(2:Int)^9=512 from rfl]
    grind
   have hY:=ADl hn0 s;have hY0:=fZ hn0 s;have hYn:n/2^s<=n:=AOK _ hn0;have hc:=uj n s;have hcn:=AAJ hG2 hc.1 hc.2;have ca:=nY (m*512) hc.1 hc.2 hG2;have cn:=nY (m*512) hcn.1 hcn.2 hG2;have hX:4503599627370496*512*2^(s+1)<=2^(s+1)*(m*512):=by
    rw[ANY];exact ANe (by omega) (by omega)
   have ee:e-((10:Nat):Int)=f+s:=(by omega);have e10:m*2^10=m*1024:=rfl;rw[ee,eX,e10];have p1:(2:Int)^(s+1)=2^s*2:=ANi ..;have s1:(m*1024+st n s)*2^s=2^(s+1)*(m*512)+st n s*2^s:=(by rw[p1];grind);have s2:(m*1024-st n s)*2^s=2^(s+1)*(m*512)+ -(st n s*2^s):=(by rw[p1];grind);have u1 : ∀M:Int,4503599627370496*511*2^(s+1)<=M->f+((s+1:Nat):Int)+1<=un M f:=by
    intro M h;have:(2:Int)^(60+(s+1))<=M:=by
     rw[ANl];have:(2:Int)^60*2^(s+1)<=4503599627370496*511*2^(s+1):=ANU (by decide) (by omega);omega
    have:=Tp this;unfold un;omega
   have AJX:(4503599627370496:Int)*2<=4503599627370496*2^(s+1):=(by omega);have gt1:m*1024>st n s:=(by omega);have gt2:2^(s+1)*(m*512)>n:=(by omega);refine⟨?_,by omega,by omega,λ_=> ?_,λh=>by omega⟩
   · rw[<-Ht (show 0<m*1024+st n s by omega) (f+s) s,show f+(s:Int)-s=f by omega,s1]
     exact(OJ (g:=s+1) (by omega) (by have:=ANZ hY0 (ANL hG);omega) ca.1.symm ca.2.symm (u1 _ (by omega))).symm
   · rw[<-Ht (show 0<m*1024-st n s by omega) (f+s) s,show f+(s:Int)-s=f by omega,s2,show 2^(s+1)*(m*512)-n=2^(s+1)*(m*512)+ -n by omega]
     have pos:0<2^(s+1)*(m*512)+ -(st n s*2^s):=(by rw[<-s2];exact AOY (by omega) hG);exact(OJ (g:=s+1) (by omega) pos cn.1.symm cn.2.symm (u1 _ (by omega))).symm
def fsF (a b:Int):Int :=
 if fs a=fs b then JU (fs a) (Rd (pm a*2^(pe a-min (pe a) (pe b)).toNat+pm b*2^(pe b-min (pe a) (pe b)).toNat) (min (pe a) (pe b)))
 else if pm a*2^(pe a-min (pe a) (pe b)).toNat=pm b*2^(pe b-min (pe a) (pe b)).toNat then 0
 else if pm a*2^(pe a-min (pe a) (pe b)).toNat>pm b*2^(pe b-min (pe a) (pe b)).toNat then JU (fs a) (Rd (pm a*2^(pe a-min (pe a) (pe b)).toNat-pm b*2^(pe b-min (pe a) (pe b)).toNat) (min (pe a) (pe b)))
 else JU (fs b) (Rd (pm b*2^(pe b-min (pe a) (pe b)).toNat-pm a*2^(pe a-min (pe a) (pe b)).toNat) (min (pe a) (pe b)))
theorem AAK (a b:Int):fsF a b=fsF b a:=by
 unfold fsF;rw[show min (pe b) (pe a)=min (pe a) (pe b) by omega];generalize pm a*2^(pe a-min (pe a) (pe b)).toNat=X;generalize pm b*2^(pe b-min (pe a) (pe b)).toNat=Y;by_cases h:fs a=fs b
 · rw[if_pos h,if_pos h.symm,h,AOy]
 · have h' : ¬fs b=fs a:=λk=>h k.symm
   rw[if_neg h,if_neg h'];rcases APT X Y with h1 | h1 | h1
   · rw[if_neg (show¬X=Y by omega),if_neg (show¬X>Y by omega),if_neg (show¬Y=X by omega),if_pos (show Y>X from h1)]
   · rw[if_pos h1,if_pos h1.symm]
   · rw[if_neg (show¬X=Y by omega),if_pos (show X>Y from h1),if_neg (show¬Y=X by omega),if_neg (show¬Y>X by omega)]
def QI (a b:Int):Int:=if fk a=4\/fk b=4 then dG else if fk a=3/\fk b=3/\a≠b then dG else if fk a=3 then a else if fk b=3 then b else fsF a b
def fl (b:Int):Int:=if fk b=4 then dG else(b+9223372036854775808)%18446744073709551616
def cl (b:Int):Int:=if fk b=4 then dG else b
theorem AFC (b:Int):U (fl b):=by unfold fl dG U;split<;>omega
theorem JV {x:Int} (h0:0<=x) (h1:x<9223372036854775808) (neg:Bool):U (JU neg x)/\fs (JU neg x)=neg/\fx (JU neg x)=x/4503599627370496/\fr (JU neg x)=x%4503599627370496:=by
 unfold JU U fs fx fr;cases neg
 · simp only[AQK,if_false]
   exact⟨by omega,decide_eq_false (by omega),by omega,by first | trivial | omega⟩
 · simp only[if_true]
   exact⟨by omega,decide_eq_true (by omega),by omega,by omega⟩
theorem AGV (a b:Int):U (fsF a b):=by
 have key : ∀(n:Bool) (m e:Int),U (JU n (Rd m e)):=λn m e=>(JV (LK m e).1 (by have:=(LK m e).2;unfold WI at this;omega) n).1
 unfold fsF;split
 · exact key ..
 · split
   · unfold U;omega
   · split
     · exact key ..
     · exact key ..
theorem JW {a b:Int} (ha:U a) (hb:U b):U (QI a b):=by
 have:U dG:=by unfold U dG;omega
 unfold QI;split
 · exact this
 · split
   · exact this
   · split
     · exact ha
     · split
       · exact hb
       · exact AGV a b
def rz (a b:Int):Int:=QI a (fl b)
def OK (a b:Int):Int:=if fk a=4\/fk b=4\/(fk a=3/\fk b=0)\/(fk a=0/\fk b=3) then dG else if fk a=3\/fk b=3 then JU (fs a !=fs b) WI else JU (fs a !=fs b) (Rd (pm a*pm b) (pe a+pe b))
theorem jL (n:Bool) (m e:Int):U (JU n (Rd m e)):=(JV (LK m e).1 (by have:=(LK m e).2;unfold WI at this;omega) n).1
theorem aT (n:Bool):U (JU n WI):=(JV (x:=WI) (by decide) (by decide) n).1
theorem XY:U dG:=by unfold U dG;omega
theorem F2 (a b:Int):U (OK a b):=by
 unfold OK;split
 · exact XY
 · split
   · exact aT _
   · exact jL ..
def qd (m e n f:Int):Int :=
 if m*2^(63-bl m).toNat*18446744073709551616%(n*2^(64-bl n).toNat)=0 then Rd (m*2^(63-bl m).toNat*18446744073709551616/(n*2^(64-bl n).toNat)) (e-f+bl m-bl n-63)
 else Rd (2*(m*2^(63-bl m).toNat*18446744073709551616/(n*2^(64-bl n).toNat))+1) (e-f+bl m-bl n-64)
theorem nZ (m e n f:Int):0<=qd m e n f/\qd m e n f<=WI:=by unfold qd;split<;>exact LK ..
def fdiv (a b:Int):Int:=if fk a=4\/fk b=4\/(fk a=3/\fk b=3)\/(fk a=0/\fk b=0) then dG else if fk a=3\/fk b=0 then JU (fs a !=fs b) WI else if fk a=0\/fk b=3 then JU (fs a !=fs b) 0 else JU (fs a !=fs b) (qd (pm a) (pe a) (pm b) (pe b))
theorem aU (a b:Int):U (fdiv a b):=by
 unfold fdiv;split
 · exact XY
 · split
   · exact aT _
   · split
     · exact(JV (x:=0) (by decide) (by decide) _).1
     · exact(JV (nZ ..).1 (by have:=(nZ (pm a) (pe a) (pm b) (pe b)).2;unfold WI at this;omega) _).1
theorem ACl {q E:Int} (h:4611686018427387904<=q):Rd (q/2*2+1) E=Rd (2*q+1) (E-1):=by
 rw[<-Ht (show 0<q/2*2+1 by omega) E 1,AOv,show E-((1:Nat):Int)=E-1 from rfl];refine OJ (g:=2) (by omega) (by omega) (by omega) (by omega) ?_;have:=Tp (x:=(q/2*2+1)*2) (n:=55) (by omega);unfold un;omega
theorem ACm {x:Int} (h:U x):Go.bits .and .u64 x 9223372036854775808=x/9223372036854775808*9223372036854775808:=by
 obtain⟨h0,h1⟩:=h;obtain⟨a,rfl⟩:=ANR h0;have e:=ACn a (2^63) (by omega) (by decide);rw[show(9223372036854775808:Int)=((2^63:Nat):Int) from rfl,e];rcases ANs a (2^63) with h2 | h2
 · have:a &&& 2^63=0:=by
    refine AP4 λi=> ?_
    rw[Nat.testBit_and,APe,Nat.zero_testBit];by_cases hi:63=i
    · subst hi
      rw[APl h2];simp
    · simp[hi]
   rw[this];omega
 · obtain⟨b,rfl⟩ : ∃b,a=b+2^63:=⟨a-2^63,by omega⟩
   have e2:=AQA (show b<2^63 by omega) 1;rw[AQY] at e2;have:(b+2^63) &&& 2^63=2^63:=by
    rw[APv,e2];refine AP4 λi=> ?_
    rw[Nat.testBit_and,APq,APe];by_cases hi:63=i<;>simp[hi]
   rw[this];omega
theorem AFD {x:Int} (h0:0<=x) (h1:x<9223372036854775808):Go.bits .or .u64 x 9223372036854775808=x+9223372036854775808:=by
 rw[or_comm _ _ h0 (by omega) (by omega) (by omega),FU 63 _ _ (by omega) (by omega) (by omega) h0 (by omega) (by omega)];omega
theorem jM (a:Nat) (h:a<2^63):a ^^^ 2^63=a+2^63:=by
 have e:=AQA h 1;rw[AQY] at e;rw[APv,e];refine AP4 λi=> ?_
 rw[Nat.testBit_xor,APq,APe];by_cases hi:63=i
 · subst hi
   rw[APl h];simp
 · simp[hi]
theorem ACo {x:Int} (h:U x):Go.bits .xor .u64 x 9223372036854775808=(x+9223372036854775808)%18446744073709551616:=by
 obtain⟨h0,h1⟩:=h;obtain⟨a,rfl⟩:=ANR h0;have ha:a<2^64:=by omega
 have e1:Go.bits .xor .u64 (a:Int) 9223372036854775808=IntKind.u64.wrap ((a ^^^ 2^63:Nat):Int):=by
  rw[show(9223372036854775808:Int)=((2^63:Nat):Int) from rfl];simp only[Go.bits,BitVec.ofInt_natCast,BitVec.toNat_xor,BitVec.toNat_ofNat];rw[show IntKind.bits .u64=64 from rfl,APz ha,APz (show 2^63<2^64 by decide)]
 rw[e1,wu];rcases ANs a (2^63) with h2 | h2
 · rw[jM a h2]
   omega
 · obtain⟨b,rfl⟩ : ∃b,a=b+2^63:=⟨a-2^63,by omega⟩
   rw[<-jM b (by omega),Nat.xor_assoc,Nat.xor_self,Nat.xor_zero,jM b (by omega)];omega
theorem JX {b:Int} (h:U b):Cy.f b=some (fx b):=by
 unfold U at h;unfold Cy.f fx;rw[AGW _ (by omega) (by omega),AE (by omega) (by omega)]
theorem B3 {b:Int} (h:U b):A9.f b=some (fk b):=by
 unfold A9.f;rw[JX h,uk b h.1 h.2];show(if fx b=2047 then(if fr b=0 then some 3 else some 4) else if fx b=0 then(if fr b=0 then some 0 else some 1) else some 2)=some (fk b);unfold fk;split
 · split<;>rfl
 · split
   · split<;>rfl
   · rfl
theorem DR {b:Int} (h:U b):CG.f b=some (fs b):=by
 unfold CG.f;rw[ACm h];unfold U at h;unfold fs
 congr 1
 by_cases hb:b>=9223372036854775808
 · rw[decide_eq_true hb,bne_iff_ne];omega
 · rw[decide_eq_false hb,bne_eq_false_iff_eq];omega
theorem Hu {b:Int} (h:U b):Ev (λk=>Ax.f k b) (if fx b=2047 then(false,0,0,false) else(fs b,pm b,pe b,true)):=by
 have hx:= @U6 b;have hr:= @NM b;have hk:=U7 b;have e52:Go.bits .and .u64 b 4503599627370495=fr b:=uk b h.1 h.2;refine Ev.AX (B3 h) ?_;rw[e52];have key : ∀t:Bool,(t=true↔fx b=2047)->Ev (λk=>Ax.j0 k b (fr b) (fk b) t) (if fx b=2047 then(false,0,0,false) else(fs b,pm b,pe b,true)):=by
  intro t ht;refine Ev.eqv (λk=>Ax.j0.eq_1 ..) ?_;by_cases hc:fx b=2047
  · rw[if_pos hc]
    exact Ev.AK (ht.2 hc) (Ev.same rfl)
  · rw[if_neg hc]
    refine Ev.AP (λk=>hc (ht.1 k)) ?_;have hk2:fk b=2↔fx b≠0:=by
     unfold fk;rw[if_neg hc];by_cases h0:fx b=0
     · rw[if_pos h0]
       split<;>omega
     · rw[if_neg h0];omega
    unfold pm pe;by_cases h0:fx b=0
    · rw[if_pos h0,if_pos h0]
      exact Ev.AP (by omega) (Ev.AX (DR h) (Ev.same rfl))
    · rw[if_neg h0,if_neg h0]
      refine Ev.AK (by omega) (Ev.AX (DR h) (Ev.AX (JX h) (Ev.same ?_)));rw[AE (by omega) (by omega),or_comm _ _ (by omega) (by omega) (by omega) (by omega),FU 52 _ _ (by omega) (by omega) (by omega) (by omega) (by omega) (by omega),AOy]
 by_cases h3:fk b=3
 · exact Ev.AK h3 (key _ (by rw[h3];simp;omega))
 · refine Ev.AP h3 (key _ ?_)
   rw[beq_iff_eq];omega
theorem Iq {x:Int} (neg:Bool) (h0:0<=x) (h1:x<9223372036854775808):C1.f neg x=some (JU neg x):=by
 unfold C1.f JU;rw[AFD h0 h1];cases neg<;>rfl
theorem Fm (neg:Bool):CH.f neg=some (JU neg WI):=by
 unfold CH.f;rw[Iq neg (by decide) (by decide)];rfl
theorem EJ:Bq.f=some dG:=rfl
theorem Mr {b:Int} (h:U b):EK.f b=some (cl b):=by
 unfold EK.f cl;rw[B3 h];show(if fk b=4 then _ else _)=_;split<;>rfl
theorem U8 {b:Int} (h:U b):FB.f b=some (fl b):=by
 unfold FB.f fl;rw[B3 h,ACo h];show(if fk b=4 then _ else _)=_;split<;>rfl
theorem r5 {m u e:Int} (h0:0<m) (h1:m<18446744073709551616) (h:64<=u-e):m*2^(e-u).toNat%2^(u-e).toNat≠0:=by
 have:=Az (a:=64) (b:=(u-e).toNat) (by omega);rw[show(e-u).toNat=0 by omega,ANc,ANr,ANv (by omega) (by omega)];omega
theorem ACp {m e:Int} (hm:U m) (he : -5000<=e) (he':e<=5000):mx (wrap64 ((wrap64 (e+bl m))-53)) (-1074)=un m e:=by
 have h1:=QJ hm.2;have h2:=B5 m;rw[AE (n:=e+bl m) (by omega) (by omega),AE (by omega) (by omega)];unfold mx un;generalize bl m=n at *;split<;>omega
theorem Ss {w u:Int} (neg:Bool) (h0:0<=w) (h1:w<9007199254740992) (hu0 : -1074<=u) (ng:u<=971) (hw:u= -1074\/4503599627370496<=w) :
 Ev (λk=>BA.j2 k neg w u) (JU neg ((u+1074)*4503599627370496+w),true):=by
 refine Ev.eqv (λk=>BA.j2.eq_1 ..) ?_;by_cases h:w<4503599627370496
 · refine Ev.AK h (Ev.AX (Iq neg h0 (by omega)) (Ev.same ?_))
   rw[show(u+1074)*4503599627370496+w=w by omega]
 · refine Ev.AP h ?_
   rw[uk w h0 (by omega),AE (by omega) (by omega),DE (n:=u+1075) (by omega) (by omega),DE (by omega) (by omega),FU 52 _ _ (by omega) (by omega) (by omega) (by omega) (by omega) (by omega)];rw[show(u+1075)*4503599627370496+w%4503599627370496=(u+1074)*4503599627370496+w by omega];exact Ev.AX (Iq neg (by omega) (by omega)) (Ev.same rfl)
theorem Ir {m e:Int} (neg:Bool) (hm:U m) (he0 : -9223372036854775808<=e) (he1:e<=9223372036854775807):Ev (λk=>BA.f k neg m e) (Mk neg m e):=by
 obtain⟨hm0,hm1⟩:=id hm;have hu:un m e=max (bl m+e-53) (-1074):=rfl;by_cases hz:m=0
 · refine Ev.AK hz (Ev.AX (Iq neg (by omega) (by omega)) (Ev.same ?_))
   rw[hz,U9]
 · have hp:0<m:=by omega
   have b1:=DY hp;have b2:=QJ hm1;refine Ev.AP hz ?_;by_cases h1:e>2000
   · refine Ev.AK h1 (Ev.eqv (λk=>BA.j0.eq_1 ..) (Ev.AK rfl (Ev.same ?_)))
     rw[PN neg hz (.inl (by omega))]
   · refine Ev.AP h1 (Ev.eqv (λk=>BA.j0.eq_1 ..) ?_)
     by_cases h2:e < -2000
     · refine Ev.AK (decide_eq_true h2) (Ev.same ?_)
       rw[PN neg hz (.inr (r5 hp hm1 (by omega)))]
     · refine Ev.AP (by rw[decide_eq_false h2];decide) (Ev.bind (FC hm) ?_)
       have hq:=wz (e:=e) hp;rw[ACp hm (by omega) (by omega),AE (by omega) (by omega)];by_cases h3:un m e>971
       · refine Ev.AK h3 (Ev.eqv (λk=>BA.j1.eq_1 ..) (Ev.AK rfl (Ev.same ?_)))
         rw[PN neg hz (.inl h3)]
       · refine Ev.AP h3 (Ev.eqv (λk=>BA.j1.eq_1 ..) ?_)
         by_cases h4:un m e-e>=64
         · refine Ev.AK (decide_eq_true h4) (Ev.same ?_)
           rw[PN neg hz (.inr (r5 hp hm1 (by omega)))]
         · refine Ev.AP (by rw[decide_eq_false h4];decide) ?_
           by_cases h5:un m e-e>0
           · refine Ev.AK h5 (Ev.AK (by omega) ?_)
             obtain⟨s,hs⟩ : ∃s:Nat,un m e-e=s:=⟨(un m e-e).toNat,by omega⟩;have hps:=pow_pos s;have hd:=ANa m (2^s);have hr:=ANk m (show(2:Int)^s≠0 by omega);have um:0<=m/2^s:=ANd hm0 (by omega);have hd1:0<=m/2^s*2^s:=ANZ um (by omega);have e0:m*2^(e-un m e).toNat=m:=(by rw[show(e-un m e).toNat=0 by omega,ANc,ANr]);rw[ANY] at hd;rw[e0] at hq;rw[hs] at hq ⊢;rw[VA _ _ (by omega),Ke _ _ (by omega)];rw[ANI] at hq ⊢;rw[ANv hd1 (by omega)];by_cases h6:m/2^s*2^s=m
             · refine Ev.AK h6 ((Ss neg hq.1 hq.2.1 (by omega) (by omega) hq.2.2).dF ?_)
               have h7:m%2^s=0:=(by omega);rw[QK neg hz (by omega) (by rw[e0,hs,ANI];exact h7),QL hp (by omega) (by rw[e0,hs,ANI];exact h7),e0,hs,ANI]
             · refine Ev.AP h6 (Ev.same ?_)
               rw[PN neg hz (.inr (by rw[e0,hs,ANI];omega))]
           · refine Ev.AP h5 ?_
             rw[AE (by omega) (by omega)];refine Ev.AK (by omega) ?_;obtain⟨t,ht⟩ : ∃t:Nat,-(un m e-e)=t:=⟨(-(un m e-e)).toNat,by omega⟩;have e1:(e-un m e).toNat=t:=(by omega);have e2:(un m e-e).toNat=0:=(by omega);rw[e1,e2,ANc,AON] at hq;rw[ht,Ke _ _ (by omega),ANI,ANv hq.1 (by omega)];refine(Ss neg hq.1 hq.2.1 (by omega) (by omega) hq.2.2).dF ?_;rw[QK neg hz (by omega) (by rw[e2,ANc,AOu]),QL hp (by omega) (by rw[e2,ANc,AOu]),e1,e2,ANc,AON]
theorem Su {b:Int} (h:U b):LL.f b=some (fx b):=JX h
theorem VB {b:Int} (h:U b):LA.f b=some (fr b):=by
 unfold LA.f;rw[uk b h.1 h.2];rfl
theorem OL {b:Int} (h:U b):Wa.f b=some (fk b):=by
 have hx:= @U6 b;have hr:= @NM b;unfold Wa.f;rw[Su h,VB h];show(if fx b=2047 then(if fr b=0 then some 3 else some 4) else if fx b>0 then some 2 else if fr b>0 then some 1 else some 0)=some (fk b);unfold fk;by_cases h1:fx b=2047
 · rw[if_pos h1,if_pos h1]
   split<;>rfl
 · rw[if_neg h1,if_neg h1]
   by_cases h2:fx b=0
   · rw[if_neg (show¬fx b>0 by omega),if_pos h2]
     by_cases h3:fr b=0
     · rw[if_neg (show¬fr b>0 by omega),if_pos h3]
     · rw[if_pos (show fr b>0 by omega),if_neg h3]
   · rw[if_pos (show fx b>0 by omega),if_neg h2]
theorem QM {b:Int} (h:U b):aV.f b=some (fs b):=by
 unfold U at h;unfold aV.f fs
 congr 1
 by_cases hb:b>=9223372036854775808
 · rw[decide_eq_true hb,beq_iff_eq];omega
 · rw[decide_eq_false hb,beq_eq_false_iff_ne];omega
theorem dX {b:Int} (h:U b):Tq.f b=some (pm b,pe b):=by
 have hx:= @U6 b;have hr:= @NM b;unfold Tq.f;rw[Su h,VB h];show(if fx b=0 then some (fr b,-1074) else some (IntKind.u64.wrap (fr b+4503599627370496),wrap64 (fx b-1075)))=_;unfold pm pe;split
 · rfl
 · rw[DE (by omega) (by omega),AE (by omega) (by omega)]
theorem Ff {x:Int} (neg:Bool) (h0:0<=x) (h1:x<9223372036854775808):Fo.f neg x=some (JU neg x):=by
 unfold Fo.f JU;rw[DE (by omega) (by omega)];cases neg<;>rfl
theorem QN (neg:Bool):QO.f neg=some (JU neg WI):=by
 unfold QO.f;rw[Ff neg (by decide) (by decide)];rfl
theorem XZ:nh.f=some dG:=rfl
theorem dY (neg:Bool) (n:Nat) : ∀m e:Int,(e+1074).toNat<=n->0<m->m<9007199254740992-> -1074<=e->e<=3000->Ev (λk=>Ba.l1 k neg m e) (Mk neg m e):=by
 have fin : ∀m e:Int,0<m->m<9007199254740992-> -1074<=e->e<=3000->(e= -1074\/4503599627370496<=m)->Ev (λk=>Ba.j4 k neg m e) (Mk neg m e):=by
  intro m e h0 h1 h2 h3 hw;have hu:un m e=e:=by
   rcases AN7 m 4503599627370496 with h | h
   · have:=Bw (x:=m) (n:=52) h
     unfold un;omega
   · rw[AAL (n:=52) h h1]
     omega
  refine Ev.step (λk=>Ba.j4.eq_2 ..) ?_;have e0:m*2^(e-un m e).toNat%2^(un m e-e).toNat=0:=by rw[hu,show(e-e).toNat=0 by omega,ANc,AOu]
  by_cases h:m<4503599627370496
  · refine Ev.AK h (Ev.AX (Ff neg (by omega) (by omega)) (Ev.same ?_))
    rw[QK neg (by omega) (by omega) e0,(jN h0 (by omega) h2 (by omega) hw).2.2.2];rw[show(e+1074)*4503599627370496+m=m by omega]
  · refine Ev.AP h ?_
    by_cases h4:e>971
    · refine Ev.AK h4 (Ev.same ?_)
      rw[PN neg (by omega) (.inl (by omega))]
    · refine Ev.AP h4 ?_
      rw[AE (by omega) (by omega),DE (n:=e+1075) (by omega) (by omega),DE (n:=(e+1075)*4503599627370496) (by omega) (by omega),DE (n:=(e+1075)*4503599627370496+m) (by omega) (by omega),DE (by omega) (by omega)];refine Ev.AX (Ff neg (by omega) (by omega)) (Ev.same ?_);rw[QK neg (by omega) (by omega) e0,(jN h0 (by omega) h2 (by omega) hw).2.2.2];rw[show(e+1075)*4503599627370496+m-4503599627370496=(e+1074)*4503599627370496+m by omega]
 induction n with
 | zero =>
   intro m e hn h0 h1 h2 h3;refine Ev.step (λk=>Ba.l1.eq_2 ..) ?_;by_cases h:m<4503599627370496
   · exact Ev.AK h (Ev.AP (by omega) (fin m e h0 h1 h2 h3 (.inl (by omega))))
   · exact Ev.AP h (fin m e h0 h1 h2 h3 (.inr (by omega)))
 | succ n ih =>
   intro m e hn h0 h1 h2 h3;refine Ev.step (λk=>Ba.l1.eq_2 ..) ?_;by_cases h:m<4503599627370496
   · refine Ev.AK h ?_
     by_cases h4:e> -1074
     · refine Ev.AK h4 ?_
       rw[DE (by omega) (by omega),AE (by omega) (by omega),<-ni neg h0 e];exact ih (m*2) (e-1) (by omega) (by omega) (by omega) (by omega) (by omega)
     · exact Ev.AP h4 (fin m e h0 h1 h2 h3 (.inl (by omega)))
   · exact Ev.AP h (fin m e h0 h1 h2 h3 (.inr (by omega)))
theorem dZ (neg:Bool) (n:Nat) : ∀m e:Int,m.toNat<=n->0<m->m<18446744073709551616-> -1200<=e->e+bl m<=2000->Ev (λk=>Ba.l0 k neg m e) (Mk neg m e):=by
 induction n with
 | zero=>intro m e hn h0;omega
 | succ n ih =>
   intro m e hn h0 h1 h2 h3;have hb:=DY h0;refine Ev.step (λk=>Ba.l0.eq_2 ..) ?_;rw[AOH (by omega),AN5 (by omega)];by_cases ho:m%2=0
   · refine Ev.AK ho ?_
     have l6:=QS (x:=m) (s:=1) (by omega);rw[AOv] at l6;rw[DE (by omega) (by omega),AE (by omega) (by omega)];have hs:=ni neg (show 0<m/2 by omega) (e+1);rw[show m/2*2=m by omega,show e+1-1=e by omega] at hs;rw[hs];exact ih (m/2) (e+1) (by omega) (by omega) (by omega) (by omega) (by omega)
   · refine Ev.AP ho ?_
     have hu:un m e=max (bl m+e-53) (-1074):=rfl;have odd:un m e>e->Mk neg m e=(0,false):=by
      intro h;refine PN neg (by omega) (.inr ?_);obtain⟨j,hj⟩ : ∃j:Nat,(un m e-e).toNat=j+1:=⟨(un m e-e).toNat-1,by omega⟩;rw[show(e-un m e).toNat=0 by omega,hj,ANc,ANr,ANi,ANY,GN _ (by omega)];have:=ANk (m/2) (show(2:Int)^j≠0 by have:=pow_pos j;omega);omega
     by_cases h4:m>=9007199254740992
     · refine Ev.AK h4 (Ev.step (λk=>Ba.j2.eq_2 ..) (Ev.AK rfl (Ev.same ?_)))
       have:=Tp (x:=m) (n:=53) (by omega);rw[odd (by omega)]
     · refine Ev.AP h4 (Ev.step (λk=>Ba.j2.eq_2 ..) ?_)
       by_cases h5:e < -1074
       · refine Ev.AK (decide_eq_true h5) (Ev.same ?_)
         rw[odd (by omega)]
       · refine Ev.AP (by rw[decide_eq_false h5];decide) ?_
         exact dY neg (e+1074).toNat m e (ANS _) h0 (by omega) (by omega) (by omega)
theorem jO {m e:Int} (neg:Bool) (hm:U m):Ev (λk=>Ba.f k neg m e) (Mk neg m e):=by
 obtain⟨hm0,hm1⟩:=id hm;have hu:un m e=max (bl m+e-53) (-1074):=rfl;by_cases hz:m=0
 · refine Ev.AK hz (Ev.AX (Ff neg (by omega) (by omega)) (Ev.same ?_))
   rw[hz,U9]
 · have hp:0<m:=by omega
   have b1:=DY hp;have b2:=QJ hm1;refine Ev.AP hz ?_;by_cases h1:e < -1200
   · refine Ev.AK h1 (Ev.step (λk=>Ba.j0.eq_2 ..) (Ev.AK rfl (Ev.same ?_)))
     rw[PN neg hz (.inr (r5 hp hm1 (by omega)))]
   · refine Ev.AP h1 (Ev.step (λk=>Ba.j0.eq_2 ..) ?_)
     by_cases h2:e>1200
     · refine Ev.AK (decide_eq_true h2) (Ev.same ?_)
       rw[PN neg hz (.inl (by omega))]
     · refine Ev.AP (by rw[decide_eq_false h2];decide) ?_
       exact dZ neg m.toNat m e (ANS _) hp hm1 (by omega) (by omega)
theorem Ms {w u:Int} (neg:Bool) (h0:0<=w) (h1:w<=9007199254740992) (hu0 : -1074<=u) (ng:u<=971) (hw:u= -1074\/4503599627370496<=w) :
 Ev (λk=>CO.f k neg w u) (JU neg ((u+1074)*4503599627370496+w)):=by
 refine Ev.bind (Ir neg (m:=w) (e:=u) (by unfold U;omega) (by omega) (by omega)) ?_;have hk:=uo (neg:=neg) h0 h1 hu0 ng hw;by_cases h:(Mk neg w u).2=true
 · rw[if_pos h] at hk
   exact Ev.AK h (Ev.same (congrArg some hk))
 · rw[if_neg h] at hk
   exact Ev.AP h (Ev.AX (Fm neg) (Ev.same (congrArg some hk)))
theorem EU (neg:Bool):Ev (λk=>CO.f k neg 0 0) (JU neg 0):=by
 refine Ev.bind (Ir neg (m:=0) (e:=0) (by unfold U;omega) (by omega) (by omega)) ?_;rw[U9];exact Ev.AK rfl (Ev.same rfl)
theorem Sv {x:Int} (h0:0<=x) (h1:x<9223372036854775808) (half more:Bool):EL.f x half more=some (if half=true/\(more=true\/x%2=1) then x+1 else x):=by
 unfold EL.f;rw[AGX x h0 (by omega),DE (by omega) (by omega)];cases half
 · simp
 · cases more
   · simp only[AQK,if_true,if_false,false_or,true_and]
     split<;>rfl
   · simp
def ce (e:Int):Int:=mn (mx e (-1099511627776)) 1099511627776
theorem VC (e:Int) : -1099511627776<=ce e/\ce e<=1099511627776:=by
 unfold ce mn mx;split<;>split<;>omega
theorem Lu {e:Int} (h0 : -1099511627776<=e) (h1:e<=1099511627776):ce e=e:=by
 unfold ce mn mx;split<;>split<;>omega
theorem nj {m e:Int} (hm:bl m<=1000000) (he : -1099511627776<=e) (he':e<=1099511627776):mx (wrap64 ((wrap64 (bl m+e))-53)) (-1074)=un m e:=by
 have h2:=B5 m;rw[AE (n:=bl m+e) (by omega) (by omega),AE (by omega) (by omega)];unfold mx un;generalize bl m=n at *;split<;>omega
theorem w7 {G H r:Int} (hG:0<G) (hGH:G*H=9223372036854775808) (h0:0<=r) (h1:r<2*H) :
 (G*r/9223372036854775808==1)=decide (r>=H)/\(r>H->(G*r*2%18446744073709551616 !=0)=true)/\(r=H->(G*r*2%18446744073709551616 !=0)=false):=by
 have e1:G*(2*H)=18446744073709551616:=by rw[Int.mul_left_comm,hGH];rfl
 have b0:0<=G*r:=ANZ (by omega) h0;have b1:G*r<18446744073709551616:=by rw[<-e1];exact AOr h1 hG
 rcases APT r H with h | h | h
 · have:G*r<9223372036854775808:=by rw[<-hGH];exact AOr h hG
   refine⟨?_,λk=>by omega,λk=>by omega⟩;rw[decide_eq_false (by omega),beq_eq_false_iff_ne];omega
 · subst h
   refine⟨?_,λk=>by omega,λ_=> ?_⟩
   · rw[decide_eq_true (by omega),beq_iff_eq]
     omega
   · rw[bne_eq_false_iff_eq]
     omega
 · have:9223372036854775808<G*r:=by rw[<-hGH];exact AOr h hG
   refine⟨?_,λ_=> ?_,λk=>by omega⟩
   · rw[decide_eq_true (by omega),beq_iff_eq]
     omega
   · rw[bne_iff_ne]
     omega
theorem r6 {m e:Int} (h:0<m) (hu:un m e<=971):Rd m e=(un m e+1074)*4503599627370496+ru m e (un m e):=by
 unfold Rd;rw[if_neg (by omega),if_neg (by omega)]
theorem jP {m e:Int} (h:0<m) (hu:un m e>971):Rd m e=WI:=by
 unfold Rd;rw[if_neg (by omega),if_pos hu]
theorem CB {m e:Int} (neg:Bool) (hm:U m):Ev (λk=>At.f k neg m e) (JU neg (Rd m (ce e))):=by
 obtain⟨hm0,hm1⟩:=id hm;have hE:=VC e;by_cases hz:m=0
 · refine Ev.AK hz (Ev.bind (EU neg) (Ev.same ?_))
   rw[hz,jQ]
 · have hp:0<m:=by omega
   have b1:=DY hp;have b2:=QJ hm1;refine Ev.AP hz (Ev.bind (FC hm) ?_);have eE:mn (mx e (-1099511627776)) 1099511627776=ce e:=rfl;rw[eE];generalize ce e=E at *;rw[nj (by omega) (by omega) (by omega)];have hu:un m E=max (bl m+E-53) (-1074):=rfl;have hq:=wz (e:=E) hp;have hr:=VD (e:=E) hp;by_cases h1:un m E>971
   · refine Ev.AK h1 (Ev.AX (Fm neg) (Ev.same ?_))
     rw[jP hp h1]
   · refine Ev.AP h1 ?_
     rw[AE (n:=un m E-E) (by omega) (by omega),r6 hp (by omega)];by_cases h2:un m E-E<=0
     · refine Ev.AK h2 ?_
       rw[AE (by omega) (by omega)];refine Ev.AK (by omega) ?_;by_cases ht : -(un m E-E)<=64
       · have e0:ru m E (un m E)=m*2^(E-un m E).toNat:=by
          unfold ru;rw[show(un m E-E).toNat=0 by omega,LM]
         rw[show(un m E-E).toNat=0 by omega,ANc,AON] at hq;rw[e0] at hr ⊢;rw[Ke _ _ (by omega),show(-(un m E-E)).toNat=(E-un m E).toNat by omega,ANv hq.1 (by omega)];exact Ev.bind (Ms neg hr.1 hr.2.1 (by omega) (by omega) hr.2.2) (Ev.same rfl)
       · exfalso
         omega
     · refine Ev.AP h2 ?_
       by_cases h3:un m E-E>64
       · refine Ev.AK h3 (Ev.bind (EU neg) (Ev.same ?_))
         have hu2:un m E= -1074:=(by omega);have e0:ru m E (un m E)=0:=by
          unfold ru;rw[show(E-un m E).toNat=0 by omega,ANc,ANr];have:=Az (a:=65) (b:=(un m E-E).toNat) (by omega);exact Wb hm0 (by omega)
         rw[e0,hu2];rfl
       · refine Ev.AP h3 ?_
         obtain⟨d,hd⟩ : ∃d:Nat,un m E-E=((d+1:Nat):Int):=⟨(un m E-E).toNat-1,by omega⟩;have AGY:d+1<=64:=(by omega);have e0:ru m E (un m E)=Pv m (d+1):=by
          unfold ru;rw[show(E-un m E).toNat=0 by omega,ANc,ANr,hd,ANI]
         rw[show(E-un m E).toNat=0 by omega,ANc,ANr,hd,ANI] at hq;rw[e0] at hr ⊢;rw[hd,AE (by omega) (by omega),AE (n:=((d+1:Nat):Int)-1) (by omega) (by omega)];refine Ev.AK (by omega) (Ev.AK (by omega) ?_);have hH:(2:Int)^(d+1)=2*2^d:=(by rw[ANi,ANY]);have hGH:(2:Int)^(64-(d+1))*2^d=9223372036854775808:=(by rw[<-ANl,show 64-(d+1)+d=63 by omega];rfl);rw[VA _ _ (by omega),Ke _ _ (by omega),show(((d+1:Nat):Int)-1).toNat=d by omega,show(64-((d+1:Nat):Int)).toNat=64-(d+1) by omega,jR m AGY,wu];have e1:m/2/2^d=m/2^(d+1):=(by rw[AN0 (by omega),<-hH]);rw[e1];have r0:=ANk m (show(2:Int)^(d+1)≠0 by have:=pow_pos (d+1);omega);have r1:=ANh m (pow_pos (d+1));have hw:=w7 (G:=2^(64-(d+1))) (H:=2^d) (r:=m%2^(d+1)) (pow_pos _) hGH r0 (by omega);rw[hw.1];have he:=Sv (x:=m/2^(d+1)) hq.1 (by omega) (decide (m%2^(d+1)>=2^d)) (2^(64-(d+1))*(m%2^(d+1))*2%18446744073709551616 !=0);have hv:(if decide (m%2^(d+1)>=2^d)=true/\((2^(64-(d+1))*(m%2^(d+1))*2%18446744073709551616 !=0)=true\/m/2^(d+1)%2=1) then m/2^(d+1)+1 else m/2^(d+1))=Pv m (d+1):=by
          unfold Pv;rcases APT (m%2^(d+1)) (2^d) with h | h | h
          · rw[if_neg (by simp;omega),if_neg (by omega)]
          · rw[hw.2.2 h]
            by_cases ho:m/2^(d+1)%2=1
            · rw[if_pos ⟨decide_eq_true (by omega), .inr ho⟩,if_pos (.inr ⟨by omega,ho⟩)]
            · rw[if_neg (by simp[ho]),if_neg (by omega)]
          · rw[hw.2.1 h,if_pos ⟨decide_eq_true (by omega), .inl rfl⟩,if_pos (.inl (by omega))]
         rw[hv] at he;refine Ev.AX he ?_;exact Ev.bind (Ms neg hr.1 hr.2.1 (by omega) (by omega) hr.2.2) (Ev.same rfl)
theorem JY {n:Int} (h0 : -9223372036854775808<=n) (h1:n<=9223372036854775807):Ev (λk=>CY.f k n) (JU (decide (n<0)) (Rd (if n<0 then -n else n) 0)):=by
 by_cases h:n<0
 · rw[decide_eq_true h,if_pos h]
   refine Ev.AK h ?_;have e:IntKind.u64.wrap (-(IntKind.u64.wrap n))= -n:=(by rw[wu,wu];omega);rw[e];refine Ev.bind (CB (e:=0) true (by unfold U;omega)) (Ev.same ?_);rw[Lu (by omega) (by omega)]
 · rw[decide_eq_false h,if_neg h]
   refine Ev.AP h ?_;rw[DE (by omega) (by omega)];refine Ev.bind (CB (e:=0) false (by unfold U;omega)) (Ev.same ?_);rw[Lu (by omega) (by omega)]
def qv (N D:Int):Int:=if N%D=0 then 2*(N/D) else 2*(N/D)+1
theorem uq (N D:Int):2*(N/D)<=qv N D/\qv N D<=2*(N/D)+1:=by unfold qv;split<;>omega
theorem ACq {N D c:Int} (hD:0<D) (hq:9007199254740992<=N/D):Rd (qv N D) c=Rd (qv (N*2) D) (c-1):=by
 have hs:0<qv N D:=by have:=uq N D;omega
 rw[<-Ht hs c 1,AOv,show c-((1:Nat):Int)=c-1 from rfl];have d1:=ANa N D;have d2:=ANk N (show D≠0 by omega);have d3:=ANh N hD;have key:N*2/D=2*(N/D)+(N%D*2)/D/\(N*2)%D=(N%D*2)%D:=by
  have e:N*2=N%D*2+D*(2*(N/D)):=by
   have:D*(2*(N/D))=2*(D*(N/D)):=(by rw[<-ANu,ANY D 2,ANu]);omega
  constructor
  · rw[e,AOA _ _ (by omega)];omega
  · rw[e,AOI]
 have r1:(N%D*2)/D=0/\(N%D*2)%D=N%D*2\/(N%D*2)/D=1/\(N%D*2)%D=N%D*2-D/\N%D≠0:=by
  rcases AN7 (N%D*2) D with h | h
  · exact .inl ⟨ANw (by omega) h,ANv (by omega) h⟩
  · have e2:N%D*2=(N%D*2-D)+D*1:=by omega
    refine .inr ⟨?_, ?_,by omega⟩
    · rw[e2,AOA _ _ (by omega),ANw (by omega) (by omega)];rfl
    · rw[e2,AOI,ANv (by omega) (by omega)];omega
 have hX:18014398509481984<=qv N D:=by have:=uq N D;omega
 have hY:0<qv (N*2) D:=by have:=uq (N*2) D;rw[key.1] at this;rcases r1 with h | h<;>omega
 have c1:qv N D*2/2^2=qv (N*2) D/2^2/\(qv N D*2%2^2=0↔qv (N*2) D%2^2=0):=by
  unfold qv;rw[key.1,key.2];rw[show((2:Int)^2)=4 from rfl];generalize N/D=q at *;generalize N%D=r at *;by_cases hr:r=0
  · subst hr
    rcases r1 with⟨k1,k2⟩ | ⟨k1,k2,k3⟩
    · rw[k1,k2,if_pos rfl,if_pos (by omega)];omega
    · exact absurd rfl k3
  · rw[if_neg hr]
    rcases r1 with⟨k1,k2⟩ | ⟨k1,k2,k3⟩
    · rw[k1,k2,if_neg (by omega)];omega
    · rw[k1,k2];split<;>omega
 refine OJ (g:=2) (by omega) hY c1.1 c1.2 ?_;have:=Tp (x:=qv N D*2) (n:=55) (by omega);unfold un;omega
theorem AAM (j:Nat) : ∀ {N D c:Int},0<D->9007199254740992<=N/D->Rd (qv N D) c=Rd (qv (N*2^j) D) (c-j):=by
 induction j with
 | zero=>intro N D c hD hq;rw[ANc,ANr,show c-((0:Nat):Int)=c by omega]
 | succ j ih =>
   intro N D c hD hq;have e:N*2^(j+1)=N*2*2^j:=(by rw[ANi,ANY (2^j),ANu]);have d1:=ANa N D;have d2:=ANk N (show D≠0 by omega);have h2:9007199254740992<=N*2/D:=by
    have h3:N/D*D<=N:=(by rw[ANY];omega);have h4:N/D<=N*2/D:=(AOD hD).2 (by
     have:0<=N/D*D:=ANZ (by omega) (by omega);omega)
    omega
   rw[e,ACq hD hq,ih hD h2]
   congr 1
   omega
def fq (N D:Int):Int :=
 if bl N-bl D < -1200 then 0 else if bl N-bl D>1100 then WI
 else Rd (qv (N*2^(max 0 (64-(bl N-bl D))).toNat) D) (-(max 0 (64-(bl N-bl D)))-1)
theorem AAN {N:Int} (h:0<N) : ∃n:Nat,bl N=n+1/\2^n<=N/\N<2^(n+1):=by
 have h1:=DY h;refine⟨(bl N-1).toNat,by omega, ?_, ?_⟩
 · exact VE h
 · have:=Gf N
   have e:((bl N-1).toNat+1)=(bl N).toNat:=by omega
   rw[e];exact this
theorem aW {N D:Int} {up g:Nat} (hN:0<N) (hD:0<D) (h:bl D+g+1<=bl N+up):2^g<=N*2^up/D:=by
 obtain⟨n,n1,n2,n3⟩:=AAN hN;obtain⟨d,d1,d2,d3⟩:=AAN hD;refine(AOD hD).2 ?_;have k1:(2:Int)^g*D<=2^g*2^(d+1):=ANe (by omega) (by have:=pow_pos g;omega);have k2:(2:Int)^n*2^up<=N*2^up:=ANU n2 (by have:=pow_pos up;omega);rw[<-ANl] at k1 k2;have k3:=Az (a:=g+(d+1)) (b:=n+up) (by omega);omega
theorem AFE {N D:Int} (hN:0<N) (hD:0<D) (h0 : -1200<=bl N-bl D) (h1:bl N-bl D<=1200) :
 fq N D=Rd (qv (N*2^(max (70-(bl N-bl D)) 0).toNat) D) (-(max (70-(bl N-bl D)) 0)-1):=by
 unfold fq;rw[if_neg (by omega)];by_cases h:bl N-bl D>1100
 · rw[if_pos h,show max (70-(bl N-bl D)) 0=0 by omega,show(0:Int).toNat=0 from rfl,ANc,ANr]
   have q:=aW (up:=0) (g:=1099) hN hD (by omega);rw[ANc,ANr] at q;have k:=(uq N D).1;have k2:(2:Int)^1099<=qv N D:=(by have:=pow_pos 1099;omega);have hb:=Tp k2;have hp:0<qv N D:=(by have:=pow_pos 1099;omega);unfold Rd;rw[if_neg (by omega),if_pos (by unfold un;omega)]
 · rw[if_neg h]
   have q:=aW (up:=(max 0 (64-(bl N-bl D))).toNat) (g:=53) hN hD (by omega);generalize hu:(max 0 (64-(bl N-bl D))).toNat=up at *;rw[AAM ((max (70-(bl N-bl D)) 0).toNat-up) hD q,ANu,<-ANl,show up+((max (70-(bl N-bl D)) 0).toNat-up)=(max (70-(bl N-bl D)) 0).toNat by omega]
   congr 1
   omega
theorem AFF {x:Int} (h:0<x) (i:Nat):x%2^i=0↔(i:Int)<=tz x:=by
 obtain⟨n,h1,h2,h3⟩:=VF h;have key : ∀j:Nat,j<=n->x%2^j=0:=by
  intro j;induction j with
  | zero=>intro _;rw[ANc,AOu]
  | succ j ih =>
    intro hj;rw[ANi,GN x (pow_pos j),h3 j (by omega),ih (by omega)];simp
 rw[h1];constructor
 · intro k
   rcases ANs n i with hlt | hge
   · exfalso
     have e:(2:Int)^i=2^n*(2*2^(i-n-1)):=by
      rw[<-Int.pow_succ',<-ANl];congr 1;omega
     rw[e] at k;have h5:=GN x (D:=2*2^(i-n-1)) (pow_pos n);rw[k,key n (ANS _)] at h5;have h6:x/2^n%(2*2^(i-n-1))=0:=by
      have hp:=pow_pos n;have:(2:Int)^n*(x/2^n%(2*2^(i-n-1)))=0:=(by omega);rcases AQB.1 this with h7 | h7<;>omega
     have h7:=Int.emod_emod_of_dvd (x/2^n) (show(2:Int)∣2*2^(i-n-1) from⟨_,rfl⟩);rw[h6] at h7;omega
   · omega
 · intro k
   exact key i (by omega)
theorem AGZ {N e:Int} (hN:0<=N) (hb:bl N<=10000) (h0 : -1099511627777<=e) (h1:e<=1099511627776):Rd N (ce e)=Rd N e:=by
 have hE:=VC e;rcases(show -1099511627776<=e\/e= -1099511627777 by omega) with h | h
 · rw[Lu h h1]
 · have:ce e= -1099511627776:=by rw[h];decide
   rw[jS hN (by omega),jS hN (by omega)]
theorem Xa {l:List Int} (neg:Bool) (hl:Wl l) (hn:l.length<=150) {e:Int} (he0 : -1099511627777<=e) (he1:e<=1099511627776):Ev (λk=>DZ.j0 k neg l e) (JU neg (Rd (nv l) e)):=by
 have h0:=AN hl.1;have hb:=Fg hl.1;refine Ev.step (λk=>DZ.j0.eq_2 ..) (Ev.bind (F0 hl) ?_);have hbN:bl (nv l)<=10000:=by omega
 have hb0:=B5 (nv l);by_cases h1:bl (nv l)<=64
 · refine Ev.AK h1 (Ev.bind (Tr hl) ?_)
   have hw:nv l<18446744073709551616:=by
    have h2:=Gf (nv l);have h3:=Az (a:=(bl (nv l)).toNat) (b:=64) (by omega);have h4:(2:Int)^64=18446744073709551616:=rfl;omega
   rw[if_pos hw];refine Ev.bind (CB neg (m:=nv l) (e:=e) ⟨h0,hw⟩) (Ev.same ?_);rw[AGZ h0 hbN he0 he1]
 · refine Ev.AP h1 ?_
   have S:=fc hl (n:=un (nv l) e-e) (by unfold un;omega);have B:=Wc hl (i:=un (nv l) e-e-1) (by unfold un;omega);have T:=r7 hl;generalize nv l=N at *;have hp:0<N:=by
    rcases(show N=0\/0<N by omega) with h | h
    · rw[h,Kn] at h1;omega
    · exact h
   have hu:un N e=max (bl N+e-53) (-1074):=rfl;have eU:mx (wrap64 ((wrap64 (bl N+e))-53)) (-1074)=un N e:=by
    rw[AE (n:=bl N+e) (by omega) (by omega),AE (n:=bl N+e-53) (by omega) (by omega),hu];unfold mx;split<;>omega
   rw[eU];by_cases h2:un N e>971
   · refine Ev.AK h2 (Ev.AX (Fm neg) (Ev.same ?_))
     rw[jP hp h2]
   · refine Ev.AP h2 ?_
     rw[AE (n:=un N e-e) (by omega) (by omega),AE (n:=un N e-e-1) (by omega) (by omega)];have hq:=wz (e:=e) hp;have hr:=VD (e:=e) hp;obtain⟨d,hd⟩ : ∃d:Nat,un N e-e=d+1:=⟨(un N e-e-1).toNat,by omega⟩;unfold ru at hr;rw[r6 hp (by omega)];unfold ru;rw[show(e-un N e).toNat=0 by omega,ANc,ANr,show(un N e-e).toNat=d+1 by omega] at hq hr ⊢;have d1:un N e-e-1=(d:Int):=(by omega);have d2:un N e-e=((d+1:Nat):Int):=(by omega);rw[d1] at B ⊢;rw[d2] at S ⊢;rw[ANI] at S;refine Ev.bind S ?_;have bq:bl (N/2^(d+1))<=53:=Bw (n:=53) (Int.lt_of_lt_of_le hq.2.1 (by decide));have W:=Tr (l:=dg (N/2^(d+1))) (Bg (by omega));rw[Aa hq.1,if_pos (by omega)] at W;refine Ev.bind W (Ev.AX B (Ev.bind T ?_));refine Ev.AX (Sv hq.1 (by omega) _ _) ?_;have hpd:=pow_pos d;have hm:=GN N (G:=2^d) (D:=2) hpd;have e2:(2:Int)^(d+1)=2^d*2:=ANi ..;have hz:N%2^d=0↔(d:Int)<=tz N:=AFF hp d;have hlt:=ANh N hpd;have hge:=ANk N (show(2:Int)^d≠0 by omega);have key:Pv N (d+1)=if Wd N (d:Int)=true/\(decide (tz N<(d:Int))=true\/N/2^(d+1)%2=1) then N/2^(d+1)+1 else N/2^(d+1):=by
      unfold Pv Wd;rw[ANI];rw[e2] at *;rw[hm];have Wg:N/2^d%2=0\/N/2^d%2=1:=(by omega);generalize N/(2^d*2)=q at *;generalize N%2^d=r at *;generalize tz N=t at *;generalize (2:Int)^d=G at *;rcases Wg with Wg | Wg
      · rw[Wg,if_neg (by omega),if_neg (by simp)]
      · rw[Wg]
        by_cases Uu:r=0
        · have:=hz.1 Uu
          by_cases ho:q%2=1
          · rw[if_pos (by right;omega),if_pos (by simp[ho])]
          · rw[if_neg (by omega),if_neg (by simp[ho];omega)]
        · have : ¬(d:Int)<=t:=λk=>Uu (hz.2 k)
          rw[if_pos (by left;omega),if_pos (by simp;omega)]
     rw[<-key];exact Ev.bind (Ms neg hr.1 hr.2.1 (ur N e) (by omega) hr.2.2) (Ev.same rfl)
theorem nk {l:List Int} (neg:Bool) (hl:Wl l) (hn:l.length<=100) (e:Int) (more:Bool):Ev (λk=>DZ.f k neg l e more) (JU neg (if more then Rd (2*nv l+1) (ce e-1) else Rd (nv l) (ce e))):=by
 have hE:=VC e;have eE:mn (mx e (-1099511627776)) 1099511627776=ce e:=rfl;cases more
 · refine Ev.AP (by decide) ?_
   rw[eE];exact Ev.dF (Xa neg hl (by omega) (by omega) (by omega)) rfl
 · refine Ev.AK rfl ?_
   rw[eE];have h0:=AN hl.1;have hb:=Fg hl.1;have S:=Rp hl (by omega) 1;rw[Tt (by omega) (by omega),show(1:Int).toNat=1 from rfl,AOv] at S;refine Ev.bind S ?_;generalize nv l=N at *;have b1:bl (N*2)<=6402:=by
    have:=F1 (x:=N) (y:=2) h0 (by omega);have:bl 2=2:=rfl;omega
   have lN:=AW (N*2);refine Ev.bind (QT (x:=1) (by unfold U;omega)) ?_;have A:=Wh (a:=dg (N*2)) (b:=dg 1) (Bg (by omega)) (Bg (by decide)) (by omega) (by decide);rw[Aa (by omega),Aa (by omega),show N*2+1=2*N+1 by omega] at A;refine Ev.bind A ?_;have b2:bl (2*N+1)<=6500:=by
    have a1:=Gf (N*2);have a2:=B5 (N*2);have:bl (2*N+1)<=((bl (N*2)).toNat+1:Nat):=Bw (by rw[ANi];omega);omega
   have l2:=AW (2*N+1);have J:=Xa neg (l:=dg (2*N+1)) (Bg (by omega)) (by omega) (e:=ce e-1) (by omega) (by omega);rw[Aa (by omega)] at J;exact Ev.dF J rfl
theorem Rs {n:Int} (h:n<=65536):nu n=n.toNat:=by
 rcases AN7 n 0 with h0 | h0
 · unfold nu mn mx
   split<;>split<;>omega
 · exact Tt h0 h
theorem Xb {w u:Int} (neg:Bool) (h0:0<=w) (h1:w<=9007199254740992) (hu0 : -1074<=u) (ng:u<=971) (hw:u= -1074\/4503599627370496<=w) :
 Ev (λk=>FV.j1 k neg u w) (JU neg ((u+1074)*4503599627370496+w)):=by
 refine Ev.step (λk=>FV.j1.eq_2 ..) ?_;refine Ev.bind (jO neg (m:=w) (e:=u) (by unfold U;omega)) ?_;have hk:=uo (neg:=neg) h0 h1 hu0 ng hw;by_cases h:(Mk neg w u).2=true
 · rw[if_pos h] at hk
   exact Ev.AK h (Ev.same (congrArg some hk))
 · rw[if_neg h] at hk
   exact Ev.AP h (Ev.AX (QN neg) (Ev.same (congrArg some hk)))
theorem r8 {w:Int} (h0:0<w) (h1:w<18446744073709551616):dg w= [w]:=by
 rw[LN h0,aX (by omega),ANv (by omega) h1]
theorem J5 {w u:Int} (neg:Bool) (h0:0<=w) (h1:w<=9007199254740992) (hu0 : -1074<=u) (ng:u<=971) (hw:u= -1074\/4503599627370496<=w) :
 Ev (λk=>FV.j0 k neg u (dg w)) (JU neg ((u+1074)*4503599627370496+w)):=by
 refine Ev.step (λk=>FV.j0.eq_2 ..) ?_;rcases(show w=0\/0<w by omega) with rfl | h
 · rw[G8]
   exact Ev.AP (by decide) (Xb neg h0 h1 hu0 ng hw)
 · rw[r8 h (by omega)]
   exact Ev.AK (by simp) (Ev.AK (by simp) (Xb neg h0 h1 hu0 ng hw))
theorem fj {x y:Int} :GD x y>0↔y<x:=by unfold GD;split<;>(try split)<;>omega
theorem Rt {x y:Int} :GD x y=0↔x=y:=by unfold GD;split<;>(try split)<;>omega
theorem aY {l:List Int} (neg:Bool) (hl:Wl l) (hn:l.length<=900) {e:Int} (he0 : -2000000000000<=e) (he1:e<=2000000000000):Ev (λk=>FV.f k neg l e) (JU neg (Rd (nv l) e)):=by
 have h0:=AN hl.1;have hb:=Fg hl.1;refine Ev.bind (Bk hl) ?_;generalize nv l=N at *;have hb0:=B5 N;have hbN:bl N<=57600:=by omega
 clear hb;have wN:Wl (dg N):=Bg (by omega);have lN:=AW N;by_cases hz:N=0
 · rw[hz]
   refine Ev.AK rfl (Ev.AX (Ff neg (by omega) (by omega)) (Ev.same ?_));rw[jQ]
 · have hp:0<N:=by omega
   have b1:=DY hp;refine Ev.AP (λk=>hz ((C5 h0).1 (by omega))) ?_;have BN:=Ko wN;rw[Aa h0] at BN;refine Ev.bind BN ?_;have hu:un N e=max (bl N+e-53) (-1074):=rfl;by_cases h1:e>2000
   · refine Ev.AK h1 (Ev.AX (QN neg) (Ev.same ?_))
     rw[AFG hp (by omega)]
   · refine Ev.AP h1 ?_
     rw[AE (n:= -1200-bl N) (by omega) (by omega)];by_cases h2:e < -1200-bl N
     · refine Ev.AK h2 (Ev.AX (Ff neg (by omega) (by omega)) (Ev.same ?_))
       rw[jS h0 (by omega)]
     · refine Ev.AP h2 ?_
       rw[nj (by omega) (by omega) (by omega)];by_cases h3:un N e>971
       · refine Ev.AK h3 (Ev.AX (QN neg) (Ev.same ?_))
         rw[jP hp h3]
       · refine Ev.AP h3 ?_
         have hr:=VD (e:=e) hp;have hq:=wz (e:=e) hp;have ng:=ur N e;rw[r6 hp (by omega)];have S1:=Fp wN (by omega) (e-un N e);rw[Aa h0,Rs (by omega)] at S1;rw[AE (n:=e-un N e) (by omega) (by omega)];refine Ev.bind S1 ?_;by_cases h4:e<un N e
         · refine Ev.AK h4 ?_
           rw[AE (n:=un N e-e) (by omega) (by omega)];obtain⟨d,hd⟩ : ∃d:Nat,un N e-e=d:=⟨(un N e-e).toNat,by omega⟩;have hdd:d<=58000:=(by omega);have e0:ru N e (un N e)=Pv N d:=by
            unfold ru;rw[show(e-un N e).toNat=0 by omega,ANc,ANr,hd,ANI]
           rw[show(e-un N e).toNat=0 by omega,ANc,ANr,hd,ANI] at hq;rw[e0] at hr ⊢;rw[hd];have R1:=J6 wN (n:=(d:Int)) (by omega);rw[Aa h0,ANI] at R1;refine Ev.bind R1 ?_;have hdm:=ANa N (2^d);have hm0:=ANk N (show(2:Int)^d≠0 by have:=pow_pos d;omega);have hm1:=ANh N (pow_pos d);have hle:N/2^d<=N:=AOK _ h0;have bq:=Bv hle;have wq:Wl (dg (N/2^d)):=Bg (by omega);have lq:=AW (N/2^d);have S2:=Fp wq (by omega) (d:Int);rw[Aa hq.1,Rs (by omega),ANI] at S2;refine Ev.bind S2 ?_;rw[ANY] at hdm;have GZ:0<=N/2^d*2^d:=ANZ hq.1 (by have:=pow_pos d;omega);have bp:=Bv (show N/2^d*2^d<=N by omega);have lp:=AW (N/2^d*2^d);have D:=QU wN (b:=dg (N/2^d*2^d)) (Bg (by omega)) (by omega) (by omega) (by rw[Aa h0,Aa GZ];omega);rw[Aa h0,Aa GZ,show N-N/2^d*2^d=N%2^d by omega] at D;refine Ev.bind D ?_;have br:=Bv (show N%2^d<=N by omega);have wr:Wl (dg (N%2^d)):=Bg (by omega);have lr:=AW (N%2^d);have S3:=Fp wr (by omega) 1;rw[Aa hm0,Rs (by omega),show(1:Int).toNat=1 from rfl,AOv] at S3;refine Ev.bind S3 ?_;have w1:Wl [1]:=⟨JZ (by unfold U;omega),by decide⟩;have S4:=Fp w1 (by decide) (d:Int);rw[Is,Rs (by omega),ANI,AOl] at S4;refine Ev.bind S4 ?_;have bd:bl ((2:Int)^d)<=d+1:=Bw (n:=d+1) (by rw[ANi];have:=pow_pos d;omega);have br2:=Bv (show N%2^d*2<=2^(d+1) by rw[ANi];omega);have bd2:bl ((2:Int)^(d+1))<=d+2:=Bw (n:=d+2) (by rw[ANi,ANi];have:=pow_pos d;omega);have C:=IU (a:=dg (N%2^d*2)) (b:=dg (2^d)) (Bg (by omega)) (Bg (by omega));rw[Aa (by omega),Aa (by have:=pow_pos d;omega)] at C;refine Ev.bind C ?_;have A:=Xc wq w1 (by omega) (by decide);rw[Aa hq.1,Is] at A;clear S1 R1 S2 S3 S4 D C BN;by_cases h5:GD (N%2^d*2) (2^d)>0
           · refine Ev.AK h5 (Ev.bind A ?_)
             have e1:Pv N d=N/2^d+1:=by
              unfold Pv;rw[if_pos (.inl (by have:=fj.1 h5;omega))]
             rw[e1] at hr ⊢;exact J5 neg (by omega) hr.2.1 ng (by omega) hr.2.2
           · refine Ev.AP h5 ?_
             by_cases h6:GD (N%2^d*2) (2^d)=0
             · refine Ev.AK h6 (Ev.AX (Lv wq (by omega)) ?_)
               rw[Aa hq.1];have h7:=Rt.1 h6;by_cases h8:N/2^d%2=1
               · refine Ev.AK (by unfold Wd;simp[h8]) (Ev.bind A ?_)
                 have e1:Pv N d=N/2^d+1:=by
                  unfold Pv;rw[if_pos (.inr ⟨by omega,h8⟩)]
                 rw[e1] at hr ⊢;exact J5 neg (by omega) hr.2.1 ng (by omega) hr.2.2
               · refine Ev.AP (by unfold Wd;simp[h8]) ?_
                 have e1:Pv N d=N/2^d:=by
                  unfold Pv;rw[if_neg (by omega)]
                 rw[e1] at hr ⊢;exact J5 neg (by omega) hr.2.1 ng (by omega) hr.2.2
             · refine Ev.AP h6 ?_
               have e1:Pv N d=N/2^d:=by
                unfold Pv;rw[if_neg ?_];intro k;rcases k with k | k
                · exact h5 (fj.2 (by omega))
                · exact h6 (Rt.2 (by omega))
               rw[e1] at hr ⊢;exact J5 neg (by omega) hr.2.1 ng (by omega) hr.2.2
         · refine Ev.AP h4 ?_
           have e0:ru N e (un N e)=N*2^(e-un N e).toNat:=by
            unfold ru;rw[show(un N e-e).toNat=0 by omega,LM]
           rw[e0] at hr ⊢;exact J5 neg hr.1 hr.2.1 ng (by omega) hr.2.2
theorem jT {l:List Int} (hl:Wl l) (hn:l.length<=900):Ev (λk=>fo.f k l) (dg (2*nv l+1)):=by
 have h0:=AN hl.1;have hb:=Fg hl.1;have S:=Fp hl (by omega) 1;rw[Rs (by omega),show(1:Int).toNat=1 from rfl,AOv] at S;refine Ev.bind S ?_;generalize nv l=N at *;have b1:bl (N*2)<=58000:=by
  have:=F1 (x:=N) (y:=2) h0 (by omega);have:bl 2=2:=rfl;omega
 have lN:=AW (N*2);have A:=Xc (a:=dg (N*2)) (b:= [1]) (Bg (by omega)) ⟨JZ (by unfold U;omega),by decide⟩ (by omega) (by decide);rw[Aa (by omega),Is,show N*2+1=2*N+1 by omega] at A;exact Ev.bind A (Ev.same rfl)
theorem jU {l:List Int} (neg:Bool) (hl:Wl l) (hn:l.length<=100) (e:Int) (more:Bool):Ev (λk=>fu.f k neg l e more) (JU neg (if more then Rd (2*nv l+1) (ce e-1) else Rd (nv l) (ce e))):=by
 have hE:=VC e;have eE:mn (mx e (-1099511627776)) 1099511627776=ce e:=rfl;cases more
 · refine Ev.AP (by decide) ?_
   rw[eE];exact Ev.bind (aY neg hl (by omega) (by omega) (by omega)) (Ev.same rfl)
 · refine Ev.AK rfl (Ev.bind (jT hl (by omega)) ?_)
   rw[eE];have h0:=AN hl.1;have hb:=Fg hl.1;have b1:bl (2*nv l+1)<=6500:=by
    have a1:=Gf (nv l);have b0:=B5 (nv l);have:=Bw (x:=2*nv l+1) (n:=(bl (nv l)).toNat+1) (by rw[ANi];omega);omega
   have lN:=AW (2*nv l+1);have:=aY neg (l:=dg (2*nv l+1)) (Bg (by omega)) (by omega) (e:=ce e-1) (by omega) (by omega);rw[Aa (by omega)] at this;exact Ev.bind this (Ev.same rfl)
def sv (X r:Int):Int:=if r*r=X then 2*r else 2*r+1
theorem ACr {X r r' c:Int} (h:IF X r) (h':IF (X*4) r') (hr:9007199254740992<=r):Rd (sv X r) c=Rd (sv (X*4) r') (c-1):=by
 have hs:0<sv X r:=by unfold sv;split<;>omega
 rw[<-Ht hs c 1,AOv,show c-((1:Nat):Int)=c-1 from rfl];obtain⟨h0,h1,h2⟩:=h;obtain⟨g0,g1,g2⟩:=h';have e1:(2*r)*(2*r)=r*r*4:=by grind
 have e2:(2*(r+1))*(2*(r+1))=(r+1)*(r+1)*4:=by grind
 have k1:2*r<=r':=by
  have:=Eg (a:=2*r) (b:=r'+1) (by omega) (by omega);omega
 have k2:r'<2*(r+1):=Eg (by omega) (by omega);by_cases hx:r*r=X
 · have:r'=2*r:=by
    have:=AAO (a:=r') (b:=2*r) (by omega) (by omega);omega
   unfold sv;rw[if_pos hx,if_pos (by rw[this];omega),this]
   congr 1
   omega
 · have hx':r'*r'≠X*4:=by
    intro he;rcases(show r'=2*r\/r'=2*r+1 by omega) with rfl | rfl
    · omega
    · have:(2*r+1)*(2*r+1)=r*r*4+4*r+1:=by grind
      omega
   unfold sv;rw[if_neg hx,if_neg hx'];refine OJ (g:=2) (by omega) (by omega) (by omega) (by omega) ?_;have:=Tp (x:=(2*r+1)*2) (n:=55) (by omega);unfold un;omega
theorem AAP (j:Nat) : ∀ {X r r' c:Int},IF X r->IF (X*4^j) r'->9007199254740992<=r->Rd (sv X r) c=Rd (sv (X*4^j) r') (c-j):=by
 induction j with
 | zero =>
   intro X r r' c h h' hr;rw[ANc,ANr] at h' ⊢;rw[nx h h',show c-((0:Nat):Int)=c by omega]
 | succ j ih =>
   intro X r r' c h h' hr;have e:X*4^(j+1)=X*4*4^j:=(by rw[ANi,ANY (4^j),ANu]);rw[e] at h' ⊢;obtain⟨h0,h1,h2⟩:=h;have hX:0<=X:=by
    have:=ANZ h0 h0;omega
   obtain⟨s,hs⟩:=ZK (A:=X*4) (by omega);have e1:(2*r)*(2*r)=r*r*4:=(by grind);have hs2:=hs.2.2;have:2*r<s+1:=Eg (by have:=hs.1;omega) (by omega);rw[ACr ⟨h0,h1,h2⟩ hs hr,ih hs h' (by omega)]
   congr 1
   omega
def r9 (m e w:Int):Prop:= ∃(up:Nat) (c r:Int),e-up=2*(c+1)/\IF (m*2^up) r/\9007199254740992<=r/\w=Rd (sv (m*2^up) r) c
theorem AAQ (j:Nat):(4:Int)^j=2^(2*j):=by rw[Int.pow_mul];rfl
theorem uu {m e:Int} {up up':Nat} {c c' r r':Int} (hle:up<=up') (h1:e-up=2*(c+1)) (h2:IF (m*2^up) r) (h3:9007199254740992<=r) (k1:e-up'=2*(c'+1)) (k2:IF (m*2^up') r') :
 Rd (sv (m*2^up) r) c=Rd (sv (m*2^up') r') c':=by
 obtain⟨j,hj⟩ : ∃j,up'=up+2*j:=⟨(up'-up)/2,by omega⟩;subst hj;have e1:m*2^(up+2*j)=m*2^up*4^j:=by rw[ANl,AAQ,ANu]
 rw[e1] at k2 ⊢;rw[AAP j h2 k2 h3]
 congr 1
 omega
theorem Xd {m e w w':Int} (h:r9 m e w) (h':r9 m e w'):w=w':=by
 obtain⟨up,c,r,h1,h2,h3,rfl⟩:=h;obtain⟨up',c',r',k1,k2,k3,rfl⟩:=h';rcases AQh up up' with hle | hle
 · exact uu hle h1 h2 h3 k1 k2
 · exact(uu hle k1 k2 k3 h1 h2).symm
theorem ACs {m:Int} (h:0<m) (e:Int) : ∃w,r9 m e w:=by
 obtain⟨up,hup,hp⟩ : ∃up:Nat,(e-up)%2=0/\106<=up:=by
  rcases(show e%2=0\/e%2=1 by omega) with h1 | h1
  · exact⟨106,by omega,by omega⟩
  · exact⟨107,by omega,by omega⟩
 have h2:(2:Int)^106<=m*2^up:=by
  have a1:=Az hp;have:=ANU (show 1<=m by omega) (ANL (pow_pos up));omega
 obtain⟨r,hr⟩:=ZK (A:=m*2^up) (by have:=pow_pos 106;omega);have h3:=hr.2.2;have:(9007199254740992:Int)<r+1:=Eg (by have:=hr.1;omega) (by omega);exact⟨_,up,(e-up)/2-1,r,by omega,hr,by omega,rfl⟩
theorem ACt {X r c:Int} (h:IF X r) (hr:18014398509481984<=r):Rd (if r*r=X then r else r/2*2+1) c=Rd (sv X r) (c-1):=by
 have hs:0<(if r*r=X then r else r/2*2+1):=by split<;>omega
 rw[<-Ht hs c 1,AOv,show c-((1:Nat):Int)=c-1 from rfl];unfold sv;by_cases hx:r*r=X
 · rw[if_pos hx,if_pos hx,ANY]
 · rw[if_neg hx,if_neg hx]
   refine OJ (g:=2) (by omega) (by omega) (by omega) (by omega) ?_;have:=Tp (x:=(r/2*2+1)*2) (n:=55) (by omega);unfold un;omega
def near (b:Int):Int × Bool:=if fx b=2047\/bl (pm b)+pe b>62 then(0,false) else(if fs b then -(ru (pm b) (pe b) 0) else ru (pm b) (pe b) 0,true)
def Tu (b k:Int):Int:=if fx b=2047 then cl b else JU (fs b) (Rd (pm b) (pe b+min (max k (-5000)) 5000))
theorem AAR {b:Int} (h:U b) (k:Int):U (Tu b k):=by
 unfold Tu cl;split
 · split
   · exact XY
   · exact h
 · exact jL ..
def sA (b:Int):Int:=if fs b then -(b-9223372036854775808) else b
def less (a b:Int):Bool:=decide (fk a≠4/\fk b≠4/\sA a<sA b)
def fint (n:Int):Int:=JU (decide (n<0)) (Rd (if n<0 then -n else n) 0)
theorem aZ (n:Int):U (fint n):=jL ..
def V (b:Int):Int:=pm b*2^(pe b+1074).toNat
theorem AGa {b:Int} (h:fx b=0):V b=fr b:=by
 unfold V pm pe;rw[if_pos h,if_pos h];show fr b*2^0=_;rw[ANc,ANr]
theorem AFH {b:Int} {n:Nat} (h:fx b=n+1):V b=(fr b+4503599627370496)*2^n:=by
 unfold V pm pe;rw[if_neg (by omega),if_neg (by omega),show(fx b-1075+1074).toNat=n by omega]
theorem jV {M l:Int} (h0:0<M) (h1:M<9007199254740992) (hl0 : -1074<=l) (hl1:l<=971):fx (Rd M l)≠2047/\fs (Rd M l)=false/\V (Rd M l)=M*2^(l+1074).toNat/\U (Rd M l):=by
 have b0:=DY h0;have b1:bl M<=53:=Bw (n:=53) h1;have hu:un M l=max (bl M+l-53) (-1074):=rfl;have q:=wz (e:=l) h0;have hz:(un M l-l).toNat=0:=by omega
 have hR:Rd M l=(un M l+1074)*4503599627370496+M*2^(l-un M l).toNat:=by
  rw[QL h0 (by omega) (by rw[hz,ANc,AOu]),hz,ANc,AON]
 rw[hz,ANc,AON] at q;rw[hR];have hV:M*2^(l+1074).toNat=M*2^(l-un M l).toNat*2^(un M l+1074).toNat:=by
  rw[ANu,<-ANl]
  congr 2
  omega
 rw[hV];have ng : -1074<=un M l:=ur M l;have hu2:un M l<=971:=by omega
 generalize M*2^(l-un M l).toNat=w at *;generalize un M l=u at *;clear hR hV hz hu;obtain⟨w0,w1,w2⟩:=q;have hsp:=JV (x:=(u+1074)*4503599627370496+w) (by omega) (by omega) false;have es:JU false ((u+1074)*4503599627370496+w)=(u+1074)*4503599627370496+w:=rfl;rw[es] at hsp;obtain⟨s1,s2,s3,s4⟩:=hsp;generalize hb:(u+1074)*4503599627370496+w=b at *;refine⟨by omega,s2, ?_,s1⟩;rcases AN7 w 4503599627370496 with h | h
 · obtain rfl:u= -1074:=by omega
   rw[AGa (by omega)];show fr b=w*2^0;rw[ANc,ANr];omega
 · rw[AFH (n:=(u+1074).toNat) (by omega)]
   congr 1
   omega
theorem ACu {N D e:Int} (hq:0<N/D):(if decide (((dg (N%D)).length:Int)>0)=true then Rd (2*(N/D)+1) (e-1) else Rd (N/D) e)=Rd (qv N D) (e-1)\/N%D<0:=by
 rcases AN7 (N%D) 0 with h | h
 · exact .inr h
 · left
   unfold qv;by_cases hz:N%D=0
   · rw[hz,G8,if_neg (by decide),if_pos rfl,<-Ht hq e 1,AOv,ANY]
     rfl
   · have:(dg (N%D)).length≠0:=λk=>hz ((C5 h).1 (by omega))
     rw[if_pos (decide_eq_true (by omega)),if_neg hz]
def fR (neg:Bool) (N D:Int):Int:=if N=0 then 0 else JU neg (fq N D)
theorem xA {N D:Int} {up:Nat} (hN:0<N) (hD:0<D) {m:Int} (hm:bl N+up<=m):0<=N*2^up/D/\bl (N*2^up/D)<=m/\0<=N*2^up%D/\bl (N*2^up%D)<=m:=by
 have hp:=pow_pos up;have h0:0<N*2^up:=AOY hN hp;have hb:bl (N*2^up)=bl N+up:=aa hN up;have h1:N*2^up/D<=N*2^up:=AOK _ (by omega);have h3:=ANa (N*2^up) D;have h4:=ANZ (show 0<=D by omega) (ANd (show 0<=N*2^up by omega) (show 0<=D by omega));have h2:N*2^up%D<=N*2^up:=by omega
 exact⟨ANd (by omega) (by omega),by have:=Bv h1;omega,ANk _ (by omega),by have:=Bv h2;omega⟩
theorem Wi {a b:List Int} (neg:Bool) (ha:Wl a) (hb:Wl b) (hla:a.length<=30) (hlb:b.length<=30) (hB:0<nv b):Ev (λk=>Bx.f k neg a b) (fR neg (nv a) (nv b)):=by
 have na:=AN ha.1;have ba:=Fg ha.1;have bb:=Fg hb.1;have pb:=DY hB;have b0:=B5 (nv a);refine Ev.bind (F0 ha) (Ev.bind (F0 hb) (Ev.bind (Tn neg ha) ?_));have SG:=Tn (b:=b) neg ha;rw[AE (n:=bl (nv a)-bl (nv b)) (by omega) (by omega)];unfold fR;by_cases hz:nv a=0
 · rw[if_pos hz]
   rw[if_pos hz] at SG ⊢;refine Ev.AK rfl (Ev.eqv (λk=>Bx.j0.eq_1 ..) (Ev.AK rfl ?_));cases neg
   · exact Ev.AP (by decide) (Ev.bind (EU false) (Ev.same rfl))
   · exact Ev.AK rfl (Ev.bind SG (Ev.bind (EU _) (Ev.same rfl)))
 · have hN:0<nv a:=by omega
   rw[if_neg hz] at SG ⊢;have hs:(if neg=true then(-1:Int) else 1)≠0:=(by cases neg<;>decide);rw[if_neg hz];refine Ev.AP hs (Ev.eqv (λk=>Bx.j0.eq_1 ..) ?_);by_cases h1:bl (nv a)-bl (nv b) < -1200
   · refine Ev.AK (decide_eq_true h1) ?_
     have e:fq (nv a) (nv b)=0:=(by unfold fq;rw[if_pos h1]);rw[e];cases neg
     · exact Ev.AP (by decide) (Ev.bind (EU false) (Ev.same rfl))
     · exact Ev.AK rfl (Ev.bind SG (Ev.bind (EU _) (Ev.same rfl)))
   · refine Ev.AP (by simp;omega) ?_
     by_cases h2:bl (nv a)-bl (nv b)>1200
     · refine Ev.AK h2 (Ev.AX (Fm neg) (Ev.same ?_))
       unfold fq;rw[if_neg (by omega),if_pos (by omega)]
     · refine Ev.AP h2 ?_
       rw[AFE hN hB (by omega) (by omega)];have eM:mx (wrap64 (70-(bl (nv a)-bl (nv b)))) 0=max (70-(bl (nv a)-bl (nv b))) 0:=by
        rw[AE (by omega) (by omega)];unfold mx;split<;>omega
       rw[eM];have S:=Rp ha (by omega) (max (70-(bl (nv a)-bl (nv b))) 0);rw[Tt (by omega) (by omega)] at S;refine Ev.bind S ?_;obtain⟨up,hup⟩ : ∃up:Nat,max (70-(bl (nv a)-bl (nv b))) 0=(up:Int):=⟨(max (70-(bl (nv a)-bl (nv b))) 0).toNat,by omega⟩;have q:=aW (up:=up) (g:=1) hN hB (by omega);rw[hup,ANI];have ds:=xA (up:=up) hN hB (m:=4000) (by omega);have GZ:0<nv a*2^up:=AOY hN (pow_pos up);have bs:bl (nv a*2^up)=bl (nv a)+up:=aa hN up;have ls:=AW (nv a*2^up);have D:=OM (a:=dg (nv a*2^up)) (b:=b) (Bg (by omega)) hb (by omega);rw[if_neg (by omega),Aa (by omega)] at D;refine Ev.bind D ?_;dsimp only;have lq:=AW (nv a*2^up/nv b);have F:=nk neg (l:=dg (nv a*2^up/nv b)) (Bg (by omega)) (by omega) (wrap64 (-(up:Int))) (decide (((dg (nv a*2^up%nv b)).length:Int)>0));rw[Aa ds.1,AE (by omega) (by omega),Lu (by omega) (by omega)] at F;have k:=ACu (N:=nv a*2^up) (D:=nv b) (e:= -(up:Int)) (by omega);rw[k.resolve_right (by omega)] at F;rw[AE (by omega) (by omega)];exact Ev.bind F (Ev.same rfl)
theorem jW {x:Int} (h:U x):Go.bits .or .u64 x 1=x/2*2+1:=by
 obtain⟨h0,h1⟩:=h;have hj:Go.bits .or .u64 (x/2*2) 1=x/2*2+1:=FU 1 _ _ (by omega) (by omega) (by omega) (by omega) (by omega) (by omega);rcases(show x%2=0\/x%2=1 by omega) with h | h
 · rw[show x/2*2=x by omega] at hj ⊢
   exact hj
 · obtain⟨a,ha⟩:=ANR (show 0<=x/2*2 by omega)
   rw[ha] at hj ⊢;have e1:=af a 1 (by omega) (by decide);have e2:=af (a ||| 1) 1 (by have:=Nat.or_lt_two_pow (n:=64) (x:=a) (y:=1) (by omega) (by decide);exact this) (by decide);rw[Nat.or_assoc,Nat.or_self] at e2;rw[show((1:Nat):Int)=1 from rfl] at e1 e2;rw[hj] at e1;rw[<-e1] at e2;rw[show x=(a:Int)+1 by omega];exact e2
theorem sB {m:Int} (h0:0<=m) (h1:m<9007199254740992) (s:Nat):J7.f m s=some (st m s):=by
 unfold J7.f;by_cases hs:(s:Int)>63
 · rw[if_pos hs]
   have:=Az (a:=64) (b:=s) (by omega);unfold st mn;rw[ANv h0 (by omega),ANw h0 (by omega)];rcases(show m=0\/1<=m by omega) with h | h
   · rw[h];rfl
   · rw[if_neg (show¬m=0 by omega)]
     congr 1
     split<;>omega
 · rw[if_neg hs,if_pos (by omega),VA _ _ (by omega),Ke _ _ (by omega),ANI]
   have hp:=pow_pos s;have hd:=ANa m (2^s);have hr:=ANk m (show(2:Int)^s≠0 by omega);have hq:0<=m/2^s:=ANd h0 (by omega);have hqm:m/2^s<=m:=AOK _ h0;have hpq:0<=m/2^s*2^s:=ANZ hq (by omega);rw[ANY] at hd;rw[ANv hpq (by omega),jW (by unfold U;omega)];unfold st;by_cases h:m%2^s=0
   · rw[if_pos h,if_pos (by omega)]
   · rw[if_neg h,if_neg (by omega)]
theorem QV {m e n f:Int} (a b:Bool) (hm0:0<=m) (hm:m<9007199254740992) (hn0:0<=n) (hn:n<9007199254740992) (hef:f<=e) (hf : -1074<=f) (he:e<=1000) (hw:e= -1074\/4503599627370496<=m) :
 Ev (λk=>C6.j0 k a m e b n f) (if a=b then JU a (Rd (m*2^(e-f).toNat+n) f) else if m*2^(e-f).toNat=n then 0 else if m*2^(e-f).toNat>n then JU a (Rd (m*2^(e-f).toNat-n) f) else JU b (Rd (n-m*2^(e-f).toNat) f)):=by
 refine Ev.eqv (λk=>C6.j0.eq_1 ..) ?_;have e1:mn (wrap64 (e-f)) 10=min (e-f) 10:=by
  rw[AE (by omega) (by omega)];unfold mn;split<;>omega
 obtain⟨up,hup⟩ : ∃up:Nat,(up:Int)=min (e-f) 10:=⟨(min (e-f) 10).toNat,by omega⟩;obtain⟨s,hs⟩ : ∃s:Nat,e-up-f=s:=⟨(e-up-f).toNat,by omega⟩;rw[e1,<-hup];have e2:wrap64 (e-(up:Int))=e-up:=AE (by omega) (by omega);have e3:wrap64 (e-(up:Int)-f)=s:=by rw[AE (by omega) (by omega)];exact hs
 rw[e2,e3];refine Ev.AK (by omega) (Ev.AX (sB hn0 hn s) ?_);have hS:=AFB hm0 hm hn0 hn hef hf hw hup hs;have hX0:0<=m*2^up:=ANZ hm0 (by have:=pow_pos up;omega);have hX1:m*2^up<=9007199254740991*1024:=APs (by omega) (Az (show up<=10 by omega)) (by have:=pow_pos up;omega) (by omega);have hY0:=fZ hn0 s;have hY1:st n s<=n+1:=by
  have:=ADl hn0 s;have:n/2^s<=n:=AOK _ hn0;omega
 rw[ANI,DE hX0 (by omega),DE (n:=m*2^up+st n s) (by omega) (by omega)];obtain⟨s1,s2,s3,s4,s5⟩:=hS;generalize m*2^up=X at *;generalize st n s=Y at *;generalize m*2^(e-f).toNat=M at *;have hce:ce (e-(up:Int))=e-up:=Lu (by omega) (by omega);by_cases hab:a=b
 · rw[if_pos hab]
   refine Ev.AK (by rw[hab];simp) ?_;refine Ev.bind (CB (e:=e-(up:Int)) a (m:=X+Y) (by unfold U;omega)) (Ev.same ?_);rw[hce,s1]
 · rw[if_neg hab]
   refine Ev.AP (by simp[hab]) ?_;by_cases h1:X>Y
   · rw[if_neg (show¬M=n by omega),if_pos (s2.1 h1)]
     refine Ev.AK h1 ?_;rw[DE (by omega) (by omega)];refine Ev.bind (CB (e:=e-(up:Int)) a (m:=X-Y) (by unfold U;omega)) (Ev.same ?_);rw[hce,s4 h1]
   · refine Ev.AP h1 ?_
     by_cases h2:X<Y
     · rw[if_neg (show¬M=n by omega),if_neg (show¬M>n by omega)]
       refine Ev.AK h2 ?_;rw[DE (by omega) (by omega)];refine Ev.bind (CB (e:=e-(up:Int)) b (m:=Y-X) (by unfold U;omega)) (Ev.same ?_);rw[hce,s5 h2]
     · rw[if_pos (show M=n by omega)]
       exact Ev.AP h2 (Ev.same rfl)
theorem dc {a b:Int} (ha:fx a≠2047) (hb:fx b≠2047):Ev (λk=>C6.f k (fs a) (pm a) (pe a) (fs b) (pm b) (pe b)) (fsF a b):=by
 have a1:=Eh a;have a2:=GF a;have b1:=Eh b;have b2:=GF b;by_cases h:pe a<pe b
 · refine Ev.AK h ((QV (fs b) (fs a) b1.1 b1.2 a1.1 a1.2 (by omega) (by omega) (by omega) b2.2.2.2).dF ?_)
   rw[AAK];unfold fsF;rw[show min (pe b) (pe a)=pe a by omega,show(pe a-pe a).toNat=0 by omega,ANc,ANr]
 · refine Ev.AP h ((QV (fs a) (fs b) a1.1 a1.2 b1.1 b1.2 (by omega) (by omega) (by omega) a2.2.2.2).dF ?_)
   unfold fsF;rw[show min (pe a) (pe b)=pe b by omega,show(pe b-pe b).toNat=0 by omega,ANc,ANr]
theorem fy {b:Int} (h:U b) (hx:fx b≠2047):Ev (λk=>Lw.f k b) (fs b,pm b,pe b):=by
 have:=Hu h;rw[if_neg hx] at this;exact Ev.bind this (Ev.same rfl)
theorem F3 {a b:Int} (ha:U a) (hb:U b):Ev (λk=>BK.f k a b) (QI a b):=by
 refine Ev.AX (B3 ha) (Ev.AX (B3 hb) ?_);have nan : ∀t:Bool,t=true->(fk a=4\/fk b=4)->Ev (λk=>BK.j0 k a b (fk a) (fk b) t) (QI a b):=by
  intro t ht h;refine Ev.step (λk=>BK.j0.eq_2 ..) (Ev.AK ht (Ev.AX EJ (Ev.same ?_)));unfold QI;rw[if_pos h]
 by_cases h1:fk a=4
 · exact Ev.AK h1 (nan _ rfl (.inl h1))
 · refine Ev.AP h1 ?_
   by_cases h2:fk b=4
   · exact nan _ (by rw[h2];rfl) (.inr h2)
   · refine Ev.step (λk=>BK.j0.eq_2 ..) (Ev.AP (by simp[h2]) ?_)
     have j1 : ∀t:Bool,(t=true↔(fk a=3/\fk b=3/\a≠b))->Ev (λk=>BK.j1 k a b (fk a) (fk b) t) (QI a b):=by
      intro t ht;refine Ev.step (λk=>BK.j1.eq_2 ..) ?_;unfold QI;rw[if_neg (show¬(fk a=4\/fk b=4) by omega)];by_cases h3:fk a=3/\fk b=3/\a≠b
      · rw[if_pos h3]
        exact Ev.AK (ht.2 h3) (Ev.AX EJ (Ev.same rfl))
      · rw[if_neg h3]
        refine Ev.AP (λk=>h3 (ht.1 k)) ?_;by_cases h4:fk a=3
        · rw[if_pos h4]
          exact Ev.AK h4 (Ev.same rfl)
        · rw[if_neg h4]
          refine Ev.AP h4 ?_;by_cases h5:fk b=3
          · rw[if_pos h5]
            exact Ev.AK h5 (Ev.same rfl)
          · rw[if_neg h5]
            refine Ev.AP h5 (Ev.bind (fy ha (KU (λk=>h1 k) h4)) (Ev.bind (fy hb (KU h2 h5)) ?_));exact Ev.bind (dc (KU h1 h4) (KU h2 h5)) (Ev.same rfl)
     by_cases h3:fk a=3
     · refine Ev.AK h3 ?_
       by_cases h4:fk b=3
       · exact Ev.AK h4 (j1 _ (by simp[h3,h4]))
       · exact Ev.AP h4 (j1 _ (by simp[h4]))
     · exact Ev.AP h3 (j1 _ (by simp[h3]))
theorem ON {a b:Int} (ha:U a) (hb:U b):Ev (λk=>GG.f k a b) (rz a b):=Ev.AX (U8 hb) (Ev.bind (F3 ha (AFC b)) (Ev.same rfl))
theorem Xe (x:Int):Go.bits .and .i64 x 1=x%2:=by
 have e:Go.bits .and .i64 x 1=IntKind.i64.wrap (((x%18446744073709551616).toNat &&& 1:Nat):Int):=by
  simp only[Go.bits,BitVec.toNat_and,BitVec.toNat_ofInt];rfl
 rw[e,Nat.and_one_is_mod,IntKind.wrap_i64];omega
theorem NN {b:Int} (h:U b) (hx:fx b≠2047):Ev (λk=>Ax.f k b) (fs b,pm b,pe b,true):=by
 have:=Hu h
 rwa [if_neg hx] at this
theorem AAS {m n E:Int} (neg:Bool) (hm0:0<=m) (hm:m<9007199254740992) (hn0:0<=n) (hn:n<9007199254740992) (hE0 : -3000<=E) (hE1:E<=3000) :
 Ev (λk=>(DF.f m n).bind λah=>((BC.f k ah.1).bind λdh=>(if dh=0 then((At.f k neg ah.2 E).bind λAJY=>(some AJY)) else(if 0<=(wrap64 (64-dh)) then(if 0<=dh then(if(shl .u64 ah.2 (wrap64 (64-dh)))=0 then((At.f k neg (Go.bits .or .u64 (shl .u64 ah.1 (wrap64 (64-dh))) (shr .u64 ah.2 dh)) (wrap64 (E+dh))).bind λAJZ=>(some AJZ)) else((At.f k neg (Go.bits .or .u64 (Go.bits .or .u64 (shl .u64 ah.1 (wrap64 (64-dh))) (shr .u64 ah.2 dh)) 1) (wrap64 (E+dh))).bind λAJa=>(some AJa))) else(none)) else(none))))) (JU neg (Rd (m*n) E)):=by
 have hP0:0<=m*n:=ANZ hm0 hn0;have hP1:m*n<=9007199254740991*9007199254740991:=APs (by omega) (by omega) hn0 (by omega);refine Ev.AX (IG (a:=m) (b:=n) (by unfold U;omega) (by unfold U;omega)) ?_;dsimp only;generalize m*n=P at *;have hhi:U (P/18446744073709551616):=by unfold U;omega
 refine Ev.bind (FC hhi) ?_;have b1:=B5 (P/18446744073709551616);have b2:bl (P/18446744073709551616)<=42:=Bw (n:=42) (by omega);by_cases hz:bl (P/18446744073709551616)=0
 · have h0:P/18446744073709551616=0:=by
    rcases(show P/18446744073709551616=0\/0<P/18446744073709551616 by omega) with h | h
    · exact h
    · have:=DY h
      omega
   refine Ev.AK hz (Ev.bind (CB (e:=E) neg (m:=P%18446744073709551616) (by unfold U;omega)) (Ev.same ?_));rw[Lu (by omega) (by omega),show P%18446744073709551616=P by omega]
 · refine Ev.AP hz ?_
   have hbP:bl P=bl (P/18446744073709551616)+64:=by
    have hge:18446744073709551616<=P:=by
     rcases AN7 P 18446744073709551616 with h | h
     · rw[ANw hP0 h] at hz
       exact absurd Kn hz
     · exact h
    exact QS (x:=P) (s:=64) hge
   have hlt:=Gf (P/18446744073709551616);obtain⟨s,hs⟩ : ∃s:Nat,bl (P/18446744073709551616)=s:=⟨(bl (P/18446744073709551616)).toNat,by omega⟩;rw[hs] at hlt hz b2 hbP ⊢;rw[ANI] at hlt;rw[AE (n:=64-(s:Int)) (by omega) (by omega)];refine Ev.AK (by omega) (Ev.AK (by omega) ?_);rw[Ke _ _ (by omega),Ke _ _ (by omega),VA _ _ (by omega),show(64-(s:Int)).toNat=64-s by omega,ANI,jR _ (show s<=64 by omega)];have hp:=pow_pos s;have Lg:=pow_pos (64-s);have aj:(2:Int)^(64-s)*2^s=18446744073709551616:=(by rw[<-ANl,show 64-s+s=64 by omega];rfl);have AGb:0<=P/18446744073709551616*2^(64-s):=ANZ (by omega) (by omega);have AMq:P/18446744073709551616*2^(64-s)+2^(64-s)<=18446744073709551616:=by
    have:=ANU (show P/18446744073709551616+1<=2^s by omega) (ANL Lg);rw[AOw,AOl,ANY (2^s),aj] at this;exact this
   have AFI:0<=P%18446744073709551616/2^s:=ANd (by omega) (by omega);have AFJ:P%18446744073709551616/2^s<2^(64-s):=(by rw[ANm hp,aj];omega);have eP:P=P/18446744073709551616*2^(64-s)*2^s+P%18446744073709551616:=(by rw[ANu,aj];omega);have eq1:P/18446744073709551616*2^(64-s)+P%18446744073709551616/2^s=P/2^s:=by
    conv=>rhs;rw[eP]
    rw[AOy (P/18446744073709551616*2^(64-s)*2^s),Int.add_mul_ediv_right _ _ (by omega),AOy]
   have eq2:P%18446744073709551616%2^s=P%2^s:=by
    conv=>rhs;rw[eP]
    rw[AOy,Int.add_mul_emod_self_right]
   have hor:Go.bits .or .u64 (P/18446744073709551616*2^(64-s)%18446744073709551616) (P%18446744073709551616/2^s)=P/2^s:=by
    rw[ANv AGb (by omega),FU (64-s) _ _ AGb (AQV ..) (by omega) AFI AFJ (by omega)];exact eq1
   rw[hor,eq2,AE (by omega) (by omega)];have hU:U (P/2^s):=(by unfold U;omega);have AGc:0<P:=by
    rcases(show P=0\/0<P by omega) with h | h
    · rw[h,Kn] at hbP;omega
    · exact h
   have hst:=AGd (M:=P) (e:=E) (s:=s) AGc (by unfold un;omega);have r0:=ANk P (show(2:Int)^s≠0 by omega);by_cases h1:P%2^s=0
   · refine Ev.AK (by rw[h1,AOR]) ?_
     unfold st at hst;rw[if_pos h1] at hst;refine Ev.bind (CB (e:=E+s) neg hU) (Ev.same ?_);rw[Lu (by omega) (by omega),hst]
   · refine Ev.AP ?_ ?_
     · have:=AOY Lg (show 0<P%2^s by omega)
       omega
     · unfold st at hst
       rw[if_neg h1] at hst;rw[jW hU];refine Ev.bind (CB (e:=E+s) neg (m:=P/2^s/2*2+1) (by unfold U at *;omega)) (Ev.same ?_);rw[Lu (by omega) (by omega),hst]
theorem Dk {a b:Int} (ha:U a) (hb:U b):Ev (λk=>Ae.f k a b) (OK a b):=by
 refine Ev.AX (B3 ha) (Ev.AX (B3 hb) (Ev.AX (DR ha) (Ev.AX (DR hb) ?_)));have eb:(!(fs a==fs b))=(fs a !=fs b):=rfl;rw[eb];generalize hneg:(fs a !=fs b)=neg;have hF:OK a b=if fk a=4\/fk b=4\/(fk a=3/\fk b=0)\/(fk a=0/\fk b=3) then dG else if fk a=3\/fk b=3 then JU neg WI else JU neg (Rd (pm a*pm b) (pe a+pe b)):=by
  unfold OK;rw[hneg]
 have j2 : ∀t:Bool,(fk a≠4/\fk b≠4)->(fk a=3\/fk b=3)->(t=true↔(fk a=0\/fk b=0))->Ev (λk=>Ae.j2 k neg t) (OK a b):=by
  intro t h4 h3 ht;refine Ev.step (λk=>Ae.j2.eq_2 ..) ?_;rw[hF];by_cases h:fk a=0\/fk b=0
  · have hc:fk a=4\/fk b=4\/(fk a=3/\fk b=0)\/(fk a=0/\fk b=3):=by omega
    rw[if_pos hc];exact Ev.AK (ht.2 h) (Ev.AX EJ (Ev.same rfl))
  · rw[if_neg (show¬(fk a=4\/fk b=4\/(fk a=3/\fk b=0)\/(fk a=0/\fk b=3)) by omega),if_pos h3]
    exact Ev.AP (λk=>h (ht.1 k)) (Ev.AX (Fm neg) (Ev.same rfl))
 have j1 : ∀t:Bool,(fk a≠4/\fk b≠4)->(t=true↔(fk a=3\/fk b=3))->Ev (λk=>Ae.j1 k a b (fk a) (fk b) neg t) (OK a b):=by
  intro t h4 ht;refine Ev.step (λk=>Ae.j1.eq_2 ..) ?_;by_cases h:fk a=3\/fk b=3
  · refine Ev.AK (ht.2 h) ?_
    by_cases h0:fk a=0
    · exact Ev.AK h0 (j2 _ h4 h (by simp[h0]))
    · exact Ev.AP h0 (j2 _ h4 h (by simp[h0]))
  · refine Ev.AP (λk=>h (ht.1 k)) ?_
    have fa:fx a≠2047:=KU h4.1 (λk=>h (.inl k));have fb:fx b≠2047:=KU h4.2 (λk=>h (.inr k));refine Ev.bind (NN ha fa) (Ev.bind (NN hb fb) ?_);have a1:=Eh a;have a2:=GF a;have b1:=Eh b;have b2:=GF b;dsimp only;rw[AE (n:=pe a+pe b) (by omega) (by omega)];rw[hF,if_neg (show¬(fk a=4\/fk b=4\/(fk a=3/\fk b=0)\/(fk a=0/\fk b=3)) by omega),if_neg h];exact AAS neg a1.1 a1.2 b1.1 b1.2 (by omega) (by omega)
 have j0 : ∀t:Bool,(t=true↔(fk a=4\/fk b=4))->Ev (λk=>Ae.j0 k a b (fk a) (fk b) neg t) (OK a b):=by
  intro t ht;refine Ev.step (λk=>Ae.j0.eq_2 ..) ?_;by_cases h:fk a=4\/fk b=4
  · refine Ev.AK (ht.2 h) (Ev.AX EJ (Ev.same ?_))
    have hc:fk a=4\/fk b=4\/(fk a=3/\fk b=0)\/(fk a=0/\fk b=3):=(by omega);rw[hF,if_pos hc]
  · refine Ev.AP (λk=>h (ht.1 k)) ?_
    by_cases h3:fk a=3
    · exact Ev.AK h3 (j1 _ (by omega) (by simp[h3]))
    · exact Ev.AP h3 (j1 _ (by omega) (by simp[h3]))
 by_cases h:fk a=4
 · exact Ev.AK h (j0 _ (by simp[h]))
 · exact Ev.AP h (j0 _ (by simp[h]))
theorem QW (neg:Bool):Ev (λk=>E0.f k neg) (JU neg 0):=by
 refine Ev.bind (Ir neg (m:=0) (e:=0) (by unfold U;omega) (by omega) (by omega)) (Ev.same ?_);rw[U9]
theorem ny {m:Int} (h0:0<m) (h1:m<9007199254740992):4611686018427387904<=m*2^(63-bl m).toNat/\m*2^(63-bl m).toNat<9223372036854775808/\9223372036854775808<=m*2^(64-bl m).toNat/\m*2^(64-bl m).toNat<18446744073709551616:=by
 have b2:bl m<=53:=Bw (n:=53) (by omega);have t:=AAT h0 (by omega);have e:m*2^(64-bl m).toNat=m*2^(63-bl m).toNat*2:=by
  rw[show(64-bl m).toNat=(63-bl m).toNat+1 by omega,ANi,ANu]
 rw[e] at t ⊢;omega
theorem QX {a b:Int} (ha:U a) (hb:U b):Ev (λk=>BP.f k a b) (fdiv a b):=by
 refine Ev.AX (B3 ha) (Ev.AX (B3 hb) (Ev.AX (DR ha) (Ev.AX (DR hb) ?_)));have eb:(!(fs a==fs b))=(fs a !=fs b):=rfl;rw[eb];generalize hneg:(fs a !=fs b)=neg;have hF:fdiv a b=if fk a=4\/fk b=4\/(fk a=3/\fk b=3)\/(fk a=0/\fk b=0) then dG else if fk a=3\/fk b=0 then JU neg WI else if fk a=0\/fk b=3 then JU neg 0 else JU neg (qd (pm a) (pe a) (pm b) (pe b)):=by
  unfold fdiv;rw[hneg]
 have j1 : ∀t:Bool,¬(fk a=4\/fk b=4\/(fk a=3/\fk b=3)\/(fk a=0/\fk b=0))->(t=true↔(fk a=3\/fk b=0))->Ev (λk=>BP.j1 k a b (fk a) (fk b) neg t) (fdiv a b):=by
  intro t h4 ht;refine Ev.step (λk=>BP.j1.eq_2 ..) ?_;rw[hF,if_neg h4];by_cases h:fk a=3\/fk b=0
  · rw[if_pos h]
    exact Ev.AK (ht.2 h) (Ev.AX (Fm neg) (Ev.same rfl))
  · rw[if_neg h]
    refine Ev.AP (λk=>h (ht.1 k)) ?_;by_cases h1:fk a=0
    · rw[if_pos (.inl h1)]
      exact Ev.AK h1 (Ev.bind (QW neg) (Ev.same rfl))
    · refine Ev.AP h1 ?_
      by_cases h2:fk b=3
      · rw[if_pos (.inr h2)]
        exact Ev.AK h2 (Ev.bind (QW neg) (Ev.same rfl))
      · rw[if_neg (by omega)]
        have fa:fx a≠2047:=KU (by omega) (by omega);have fb:fx b≠2047:=KU (by omega) (by omega);have za:pm a≠0:=λk=>h1 ((U7 a).2.2.2.1.2 ⟨fa,k⟩)
        have zb:pm b≠0:=λk=>h (.inr ((U7 b).2.2.2.1.2 ⟨fb,k⟩))
        refine Ev.AP h2 (Ev.bind (NN ha fa) (Ev.bind (NN hb fb) ?_));have a1:=Eh a;have a2:=GF a;have b1:=Eh b;have b2:=GF b;have na:=B5 (pm a);have nb:=B5 (pm b);have ba:bl (pm a)<=53:=Bw (n:=53) (by omega);have bb:bl (pm b)<=53:=Bw (n:=53) (by omega);have ta:=ny (m:=pm a) (by omega) a1.2;have tb:=ny (m:=pm b) (by omega) b1.2;have a3 : -1074<=pe a/\pe a<=972:=⟨a2.1,a2.2.1⟩;have b3 : -1074<=pe b/\pe b<=972:=⟨b2.1,b2.2.1⟩;dsimp only;refine Ev.bind (FC (x:=pm a) (by unfold U;omega)) (Ev.bind (FC (x:=pm b) (by unfold U;omega)) ?_);clear a2 b2 hF h4 ht h h1 h2 fa fb;unfold qd;generalize pm a=m at *;generalize pm b=n at *;generalize pe a=e at *;generalize pe b=f at *;rw[AE (n:=63-bl m) (by omega) (by omega),AE (n:=64-bl n) (by omega) (by omega)];refine Ev.AK (by omega) (Ev.AK (by omega) ?_);rw[Ke _ _ (by omega),Ke _ _ (by omega),ANv (by omega) (by omega),ANv (by omega) (by omega)];rw[AE (n:=e-(63-bl m)) (by omega) (by omega),AE (n:=e-(63-bl m)-f) (by omega) (by omega),AE (n:=e-(63-bl m)-f+(64-bl n)) (by omega) (by omega),AE (n:=e-(63-bl m)-f+(64-bl n)-64) (by omega) (by omega)];have eE:e-(63-bl m)-f+(64-bl n)-64=e-f+bl m-bl n-63:=(by omega);have eE2:e-f+bl m-bl n-64=e-f+bl m-bl n-63-1:=(by omega);have hE : -5000<=e-f+bl m-bl n-63/\e-f+bl m-bl n-63<=5000:=(by omega);rw[eE,eE2];generalize e-f+bl m-bl n-63=E at *;generalize m*2^(63-bl m).toNat=M at *;generalize n*2^(64-bl n).toNat=N at *;have D:=Tv (hi:=M) (lo:=0) (d:=N) (by omega) (by omega) (by omega) (by unfold U;omega);rw[AOS] at D;have q0:4611686018427387904<=M*18446744073709551616/N:=(by rw[AOD (by omega)];omega);have q1:M*18446744073709551616/N<18446744073709551616:=(by rw[ANm (by omega)];omega);refine Ev.bind D ?_;dsimp only;generalize M*18446744073709551616/N=q at *;generalize M*18446744073709551616%N=r at *;by_cases hr:r=0
        · rw[if_pos hr]
          refine Ev.AK hr (Ev.bind (CB (e:=E) neg (m:=q) (by unfold U;omega)) (Ev.same ?_));rw[Lu (by omega) (by omega)]
        · rw[if_neg hr]
          refine Ev.AP hr ?_;rw[jW (by unfold U;omega)];refine Ev.bind (CB (e:=E) neg (m:=q/2*2+1) (by unfold U;omega)) (Ev.same ?_);rw[Lu (by omega) (by omega),ACl q0]
 have j0 : ∀t:Bool,(t=true↔(fk a=4\/fk b=4\/(fk a=3/\fk b=3)\/(fk a=0/\fk b=0)))->Ev (λk=>BP.j0 k a b (fk a) (fk b) neg t) (fdiv a b):=by
  intro t ht;refine Ev.step (λk=>BP.j0.eq_2 ..) ?_;by_cases h:fk a=4\/fk b=4\/(fk a=3/\fk b=3)\/(fk a=0/\fk b=0)
  · refine Ev.AK (ht.2 h) (Ev.AX EJ (Ev.same ?_))
    rw[hF,if_pos h]
  · refine Ev.AP (λk=>h (ht.1 k)) ?_
    by_cases h3:fk a=3
    · exact Ev.AK h3 (j1 _ h (by simp[h3]))
    · exact Ev.AP h3 (j1 _ h (by simp[h3]))
 by_cases h:fk a=4
 · exact Ev.AK h (j0 _ (by simp[h]))
 · refine Ev.AP h ?_
   by_cases h2:fk b=4
   · exact Ev.AK h2 (j0 _ (by simp[h2]))
   · refine Ev.AP h2 ?_
     by_cases h3:fk a=fk b
     · refine Ev.AK h3 ?_
       by_cases h5:fk a=3
       · exact Ev.AK h5 (j0 _ (by simp;omega))
       · exact Ev.AP h5 (j0 _ (by simp;omega))
     · exact Ev.AP h3 (j0 _ (by simp;omega))
theorem ACv {t hi:Int} (h0:0<=t) (h1:t<18446744073709551616) (hhi:U hi):(t*t/18446744073709551616<hi\/(t*t/18446744073709551616=hi/\t*t%18446744073709551616=0))↔t*t<=hi*18446744073709551616:=by
 have:=ANZ h0 h0;generalize t*t=q at *;omega
theorem jX {hi R:Int} (hhi:U hi) (hR:IF (hi*18446744073709551616) R) (hR1:R<18446744073709551616) (j:Nat) (hj:j<=64) : ∀r:Int,0<=r->r%2^j=0->r<=R->R<r+2^j->Ev (λk=>Bz.l0 k hi r (2^j/2)) (R,decide (R*R=hi*18446744073709551616)):=by
 induction j with
 | zero =>
   intro r h0 hm h1 h2;rw[ANc] at h2;obtain rfl:r=R:=by omega
   refine Ev.step (λk=>Bz.l0.eq_2 ..) (Ev.AP (by decide) ?_);refine Ev.AX (IG (a:=r) (b:=r) (by unfold U;omega) (by unfold U;omega)) ?_;dsimp only;have:=ANZ h0 h0;have hle:=hR.2.1;generalize r*r=q at *;by_cases h:q/18446744073709551616=hi
   · refine Ev.AK h (Ev.same ?_)
     congr 2
     by_cases h3:q%18446744073709551616=0
     · rw[h3,decide_eq_true (by omega)];rfl
     · rw[decide_eq_false (by omega),beq_eq_false_iff_ne]
       exact h3
   · refine Ev.AP h (Ev.same ?_)
     rw[decide_eq_false (by omega)]
 | succ j ih =>
   intro r h0 hm h1 h2;have hp:=pow_pos j;have e2:(2:Int)^(j+1)/2=2^j:=(by rw[ANi];omega);have AMW:(2:Int)^j<=2^63:=Az (by omega);rw[e2];refine Ev.step (λk=>Bz.l0.eq_2 ..) (Ev.AK hp ?_);rw[ANi] at h2;have hdvd:r+2^j<18446744073709551616:=by
    have hm':=ANa r (2^(j+1));rw[hm,AOS] at hm';have Lh:=pow_pos (j+1);have aj:(2:Int)^(j+1)*2^(63-j)=18446744073709551616:=(by rw[<-ANl,show j+1+(63-j)=64 by omega];rfl);have hq:r/2^(j+1)<2^(63-j):=(by rw[ANm Lh,ANY,aj];omega);have:=ANe (show r/2^(j+1)+1<=2^(63-j) by omega) (ANL Lh);rw[aj,AOs,ANr,hm',ANi] at this;omega
   rw[FU (j+1) _ _ h0 hm (by omega) (by omega) (by rw[ANi];omega) (by omega)];refine Ev.AX (IG (a:=r+2^j) (b:=r+2^j) (by unfold U;omega) (by unfold U;omega)) ?_;dsimp only;have ht:=ACv (t:=r+2^j) (by omega) hdvd hhi;have hm2:(r+2^j)%2^j=0:=by
    have hm':=ANa r (2^(j+1));rw[hm,AOS,ANi,ANu] at hm';rw[<-hm',AQL];exact AOh ..
   have hm3:r%2^j=0:=by
    have hm':=ANa r (2^(j+1));rw[hm,AOS,ANi,ANu] at hm';rw[<-hm'];exact AOh ..
   have yes:(r+2^j)*(r+2^j)<=hi*18446744073709551616->Ev (λk=>Bz.l0 k hi (r+2^j) (2^j/2)) (R,decide (R*R=hi*18446744073709551616)):=by
    intro h;have hlt:r+2^j<R+1:=Eg (by have:=hR.1;omega) (by have:=hR.2.2;omega);exact ih (by omega) (r+2^j) (by omega) hm2 (by omega) (by omega)
   have no : ¬(r+2^j)*(r+2^j)<=hi*18446744073709551616->Ev (λk=>Bz.l0 k hi r (2^j/2)) (R,decide (R*R=hi*18446744073709551616)):=by
    intro h;have hlt:R<r+2^j:=Eg (by omega) (by have:=hR.2.1;omega);exact ih (by omega) r h0 hm3 h1 hlt
   by_cases c1:(r+2^j)*(r+2^j)/18446744073709551616<hi
   · exact Ev.AK c1 (yes (ht.1 (.inl c1)))
   · refine Ev.AP c1 ?_
     by_cases c2:(r+2^j)*(r+2^j)/18446744073709551616=hi
     · refine Ev.AK c2 ?_
       by_cases c3:(r+2^j)*(r+2^j)%18446744073709551616=0
       · exact Ev.AK c3 (yes (ht.1 (.inr ⟨c2,c3⟩)))
       · exact Ev.AP c3 (no (λk=>(ht.2 k).elim c1 (λx=>c3 x.2)))
     · exact Ev.AP c2 (no (λk=>(ht.2 k).elim c1 (λx=>c2 x.1)))
theorem jY {hi R:Int} (hhi:U hi) (hR:IF (hi*18446744073709551616) R):Ev (λk=>Bz.f k hi) (R,decide (R*R=hi*18446744073709551616)):=by
 have hR1:R<18446744073709551616:=Eg (by omega) (by have:=hR.2.1;unfold U at hhi;omega);exact jX hhi hR hR1 64 (by omega) 0 (by omega) (by decide) hR.1 (by omega)
theorem Sw {b:Int} (h:U b) (hk:fk b=4\/(fk b≠0/\fs b=true)):Ev (λk=>B6.f k b) dG:=by
 refine Ev.AX (B3 h) ?_;by_cases h4:fk b=4
 · exact Ev.AK h4 (Ev.AX EJ (Ev.same rfl))
 · have hs:=(hk.resolve_left h4)
   refine Ev.AP h4 ?_;by_cases h3:fk b=3
   · exact Ev.AK h3 (Ev.AX (DR h) (Ev.AK hs.2 (Ev.AX EJ (Ev.same rfl))))
   · refine Ev.AP h3 (Ev.AP hs.1 ?_)
     exact Ev.AX (DR h) (Ev.AK hs.2 (Ev.AX EJ (Ev.same rfl)))
theorem PO {b:Int} (h:U b) (hk:fk b=0\/(fk b=3/\fs b=false)):Ev (λk=>B6.f k b) b:=by
 refine Ev.AX (B3 h) (Ev.AP (by omega) ?_);by_cases h3:fk b=3
 · have hs:=hk.resolve_left (by omega)
   exact Ev.AK h3 (Ev.AX (DR h) (Ev.AP (by rw[hs.2];decide) (Ev.same rfl)))
 · exact Ev.AP h3 (Ev.AK (by omega) (Ev.same rfl))
theorem uw {m e w:Int} {up:Nat} (h0:0<m) (hm:m<9007199254740992) (he0 : -1074<=e) (he1:e<=971) (hup:(up:Int)=126-bl m\/(up:Int)=125-bl m) (hpar:(e-up)%2=0) (hw:r9 m e w):Ev (λk=>B6.j0 k m e (up:Int)) w:=by
 have b1:=DY h0;have b2:bl m<=53:=Bw (n:=53) hm;have l1:=Gf m;have l2:=VE h0;refine Ev.step (λk=>B6.j0.eq_2 ..) ?_;obtain⟨t,ht⟩ : ∃t:Nat,up=t+64:=⟨up-64,by omega⟩;subst ht;have hp:=pow_pos t;have et:wrap64 (((t+64:Nat):Int)-64)=t:=by rw[AE (by omega) (by omega)];omega
 rw[et];refine Ev.AK (by omega) ?_;have hlt:m*2^t<2^62:=by
  have:=AOL l1 hp;rw[<-ANl] at this;have:=Az (a:=(bl m).toNat+t) (b:=62) (by omega);omega
 have hge:2^60<=m*2^t:=by
  have:=ANU l2 (ANL hp);rw[<-ANl] at this;have:=Az (a:=60) (b:=(bl m-1).toNat+t) (by omega);omega
 rw[Ke _ _ (by omega),ANI,ANv (by omega) (by omega)];have eX:m*2^t*18446744073709551616=m*2^(t+64):=by rw[ANl,<-ANu];rfl
 obtain⟨R,hR⟩:=ZK (A:=m*2^(t+64)) (by rw[<-eX];omega);have ADm:=jY (hi:=m*2^t) (R:=R) (by unfold U;omega) (by rw[eX];exact hR);rw[eX] at ADm;refine Ev.bind ADm ?_;dsimp only;have hR0:=hR.1;have hR2:=hR.2.2;have hR1:=hR.2.1;have AJb:(1073741824*1073741824:Int)*4294967296<=m*2^(t+64):=by rw[<-eX];omega
 have AGe:(18014398509481984:Int)<=R:=by
  have:(18014398509481984:Int)<R+1:=Eg (by omega) (by omega);omega
 have AAU:R<18446744073709551616:=Eg (by omega) (by rw[<-eX] at hR1;omega);obtain⟨c,hc⟩ : ∃c:Int,e-((t+64:Nat):Int)=2*c:=⟨(e-((t+64:Nat):Int))/2,by omega⟩;have eE:wrap64 (Int.tdiv (wrap64 (e-((t+64:Nat):Int))) 2)=c:=by
  rw[AE (n:=e-((t+64:Nat):Int)) (by omega) (by omega),hc,AQW _ (by decide),AE (by omega) (by omega)]
 rw[eE];have hwR:w=Rd (sv (m*2^(t+64)) R) (c-1):=Xd hw ⟨t+64,c-1,R,by omega,hR,by omega,rfl⟩;have n8:=ACt (c:=c) hR AGe;rw[<-hwR] at n8;by_cases hx:R*R=m*2^(t+64)
 · rw[if_pos hx] at n8
   refine Ev.AK (decide_eq_true hx) (Ev.bind (CB (e:=c) false (m:=R) (by unfold U;omega)) (Ev.same ?_));rw[Lu (by omega) (by omega),n8];rfl
 · rw[if_neg hx] at n8
   refine Ev.AP (by rw[decide_eq_false hx];decide) ?_;rw[jW (by unfold U;omega)];refine Ev.bind (CB (e:=c) false (m:=R/2*2+1) (by unfold U;omega)) (Ev.same ?_);rw[Lu (by omega) (by omega),n8];rfl
theorem jZ {b w:Int} (h:U b) (h4:fk b≠4) (h3:fk b≠3) (h0:fk b≠0) (hs:fs b=false) (hw:r9 (pm b) (pe b) w):Ev (λk=>B6.f k b) w:=by
 refine Ev.AX (B3 h) (Ev.AP h4 (Ev.AP h3 (Ev.AP h0 ?_)));refine Ev.AX (DR h) (Ev.AP (by rw[hs];decide) ?_);have hf:=KU h4 h3;refine Ev.bind (NN h hf) ?_;have a1:=Eh b;have a2:=GF b;have hz:pm b≠0:=λk=>h0 ((U7 b).2.2.2.1.2 ⟨hf,k⟩)
 have a3:=a2.2.2.1 hf;dsimp only;refine Ev.bind (FC (x:=pm b) (by unfold U;omega)) ?_;have b1:=DY (x:=pm b) (by omega);have b2:bl (pm b)<=53:=Bw (n:=53) (by omega);obtain⟨up,hup⟩ : ∃up:Nat,(up:Int)=126-bl (pm b):=⟨(126-bl (pm b)).toNat,by omega⟩;rw[AE (n:=126-bl (pm b)) (by omega) (by omega),<-hup,Xe,AE (n:=pe b-(up:Int)) (by omega) (by omega)];by_cases hp:(pe b-(up:Int))%2=0
 · exact Ev.AK hp (uw (by omega) a1.2 a2.1 a3 (.inl hup) hp hw)
 · refine Ev.AP hp ?_
   have e1:wrap64 ((up:Int)-1)=((up-1:Nat):Int):=(by rw[AE (by omega) (by omega)];omega);rw[e1];exact uw (by omega) a1.2 a2.1 a3 (.inr (by omega)) (by omega) hw
theorem n9 (x:Int):Int.tmod x 2=0↔x%2=0:=⟨λh=>Int.emod_eq_zero_of_dvd (Int.dvd_of_tmod_eq_zero h),λh=>Int.tmod_eq_zero_of_dvd (Int.dvd_of_emod_eq_zero h)⟩
theorem Sx {m e w:Int} {up:Nat} (h0:0<m) (hm:m<9007199254740992) (he0 : -1074<=e) (he1:e<=971) (hup:160<=up) (AMr:up<=161) (hpar:(e-up)%2=0) (hw:r9 m e w):Ev (λk=>Cw.j1 k m e (up:Int)) w:=by
 refine Ev.step (λk=>Cw.j1.eq_2 ..) ?_;have S:=Fp (a:= [m]) ⟨JZ (by unfold U;omega),by simp⟩ (by simp) (up:Int);rw[Is,Rs (by omega),ANI] at S;refine Ev.bind S ?_;have hp:=pow_pos up;have hX0:0<=m*2^up:=ANZ (by omega) (by omega);have AJX:(1329227995784915872903807060280344576:Int)<=m*2^up:=by
  have a1:=Az (a:=120) (b:=up) (by omega);have:=ANU (show 1<=m by omega) (ANL hp);have e1:(2:Int)^120=1329227995784915872903807060280344576:=by decide
  omega
 have bX:bl (m*2^up)<=53+161:=by
  have b1:bl m<=53:=Bw (n:=53) (by omega);have:=aa h0 up;omega
 obtain⟨R,hR⟩:=ZK hX0;have lX:=AW (m*2^up);have T:=jc (a:=dg (m*2^up)) (Bg (by omega)) (by omega) (R:=R) (by rw[Aa hX0];exact hR);refine Ev.bind T ?_;have hR0:=hR.1;have AJc:R*R<=m*2^up:=hR.2.1;have hRR:R<=R*R:=by
  rcases(show R=0\/1<=R by omega) with h | h
  · rw[h];decide
  · have:=ANU h hR0
    omega
 have bR:=Bv (show R<=m*2^up by omega);have bRR:=Bv AJc;have lR:=AW R;have M:=Xf (a:=dg R) (b:=dg R) (Bg (by omega)) (Bg (by omega)) (by omega) (by omega);rw[Aa hR0] at M;refine Ev.bind M ?_;have C:=IU (a:=dg (R*R)) (b:=dg (m*2^up)) (Bg (by omega)) (Bg (by omega));rw[Aa (by omega),Aa hX0] at C;refine Ev.bind C ?_;obtain⟨c,hc⟩ : ∃c:Int,e-(up:Int)=2*c:=⟨(e-(up:Int))/2,by omega⟩;have eE:wrap64 (Int.tdiv (wrap64 (e-(up:Int))) 2)=c:=by
  rw[AE (n:=e-(up:Int)) (by omega) (by omega),hc,AQW _ (by decide),AE (by omega) (by omega)]
 rw[eE];have AJb:(18014398509481984:Int)<=R:=by
  have:(18014398509481984:Int)<R+1:=Eg (by omega) (by have:=hR.2.2;omega);omega
 have MO:=jU false (l:=dg R) (Bg (by omega)) (by omega) c (GD (R*R) (m*2^up) !=0);rw[Aa hR0,Lu (by omega) (by omega)] at MO;refine Ev.bind MO (Ev.same ?_);have hwR:w=Rd (sv (m*2^up) R) (c-1):=Xd hw ⟨up,c-1,R,by omega,hR,by omega,rfl⟩;rw[hwR];unfold sv;by_cases hx:R*R=m*2^up
 · rw[if_pos hx]
   have:(GD (R*R) (m*2^up) !=0)=false:=by rw[bne_eq_false_iff_eq];exact Rt.2 hx
   rw[this];have:=Ht (show 0<R by omega) c 1;rw[AOv,ANY] at this;show some (JU false (Rd R c))=some (Rd (2*R) (c-1));rw[<-this];rfl
 · rw[if_neg hx]
   have:(GD (R*R) (m*2^up) !=0)=true:=by rw[bne_iff_ne];exact λk=>hx (Rt.1 k)
   rw[this];rfl
theorem Sy {b:Int} (h:U b) (hk:fk b=4\/(fk b≠0/\fs b=true)):Ev (λk=>Cw.f k b) dG:=by
 refine Ev.AX (OL h) (Ev.AP (by omega) ?_);by_cases h4:fk b=4
 · exact Ev.AK h4 (Ev.step (λk=>Cw.j0.eq_2 ..) (Ev.AK rfl (Ev.AX XZ (Ev.same rfl))))
 · have hs:=(hk.resolve_left h4)
   exact Ev.AP h4 (Ev.AX (QM h) (Ev.step (λk=>Cw.j0.eq_2 ..) (Ev.AK hs.2 (Ev.AX XZ (Ev.same rfl)))))
theorem PR {b:Int} (h:U b) (hk:fk b=0\/(fk b=3/\fs b=false)):Ev (λk=>Cw.f k b) b:=by
 refine Ev.AX (OL h) ?_;by_cases h0:fk b=0
 · exact Ev.AK h0 (Ev.same rfl)
 · have hs:=hk.resolve_left h0
   refine Ev.AP h0 (Ev.AP (by omega) (Ev.AX (QM h) (Ev.step (λk=>Cw.j0.eq_2 ..) ?_)));exact Ev.AP (by rw[hs.2];decide) (Ev.AK hs.1 (Ev.same rfl))
theorem jd {b w:Int} (h:U b) (h4:fk b≠4) (h3:fk b≠3) (h0:fk b≠0) (hs:fs b=false) (hw:r9 (pm b) (pe b) w):Ev (λk=>Cw.f k b) w:=by
 refine Ev.AX (OL h) (Ev.AP h0 (Ev.AP h4 (Ev.AX (QM h) ?_)));refine Ev.step (λk=>Cw.j0.eq_2 ..) (Ev.AP (by rw[hs];decide) (Ev.AP h3 (Ev.AX (dX h) ?_)));have hf:=KU h4 h3;have a1:=Eh b;have a2:=GF b;have hz:pm b≠0:=λk=>h0 ((U7 b).2.2.2.1.2 ⟨hf,k⟩)
 have a3:=a2.2.2.1 hf;dsimp only;rw[AE (n:=pe b-160) (by omega) (by omega)];by_cases hp:(pe b-160)%2=0
 · exact Ev.AK ((n9 _).2 hp) (Sx (up:=160) (by omega) a1.2 a2.1 a3 (by omega) (by omega) hp hw)
 · exact Ev.AP (λk=>hp ((n9 _).1 k)) (Sx (up:=161) (by omega) a1.2 a2.1 a3 (by omega) (by omega) (by omega) hw)
theorem aq {b:Int} (h:U b):Iu.f b=some (sA b):=by
 unfold Iu.f;rw[DR h,wu];unfold U at h;show(if fs b=true then some (wrap64 (-(wrap64 (b*2%18446744073709551616/2)))) else some (wrap64 (b*2%18446744073709551616/2)))=some (sA b);unfold sA fs;by_cases hb:b>=9223372036854775808
 · rw[decide_eq_true hb,if_pos rfl,if_pos rfl,AE (n:=b*2%18446744073709551616/2) (by omega) (by omega),AE (by omega) (by omega)]
   congr 1
   omega
 · rw[decide_eq_false hb,if_neg (by decide),if_neg (by decide),AE (by omega) (by omega)]
   congr 1
   omega
theorem je {a b:Int} (ha:U a) (hb:U b):Gm.f a b=some (decide (fk a≠4/\fk b≠4)):=by
 unfold Gm.f;rw[B3 ha,B3 hb];show(if fk a=4 then some false else some (fk b !=4))=_;by_cases h:fk a=4
 · rw[if_pos h,decide_eq_false (λk=>k.1 h)]
 · rw[if_neg h]
   congr 1
   by_cases h2:fk b=4
   · rw[decide_eq_false (λk=>k.2 h2),bne_eq_false_iff_eq];exact h2
   · rw[decide_eq_true ⟨h,h2⟩,bne_iff_ne];exact h2
theorem J8 {a b:Int} (ha:U a) (hb:U b):Du.f a b=some (less a b):=by
 unfold Du.f less;rw[je ha hb,aq ha,aq hb];show(if decide (fk a≠4/\fk b≠4)=true then some (decide (sA a<sA b)) else some false)=_;by_cases h:fk a≠4/\fk b≠4
 · rw[decide_eq_true h,if_pos rfl]
   congr 1
   simp[h.1,h.2]
 · rw[decide_eq_false h,if_neg (by decide),decide_eq_false (λk=>h ⟨k.1,k.2.1⟩)]
theorem ux {b:Int} (h:fx b=2047\/bl (pm b)+pe b>62):near b=(0,false):=by unfold near;rw[if_pos h]
theorem AAV {b:Int} (h:fx b≠2047) (h2:bl (pm b)+pe b<=62):near b=(if fs b then -(ru (pm b) (pe b) 0) else ru (pm b) (pe b) 0,true):=by
 unfold near;rw[if_neg (by omega)]
theorem jf {n:Int} (neg t:Bool) (h0:0<=n) (h1:n<=4611686018427387904):Ev (λk=>Br.j1 k neg n t) (if neg then -(if t then n+1 else n) else(if t then n+1 else n),true):=by
 refine Ev.step (λk=>Br.j1.eq_2 ..) ?_;cases t
 · refine Ev.AP (by decide) ?_
   cases neg
   · exact Ev.AP (by decide) (Ev.same rfl)
   · refine Ev.AK rfl (Ev.same ?_)
     rw[AE (by omega) (by omega)];rfl
 · refine Ev.AK rfl ?_
   cases neg
   · refine Ev.AP (by decide) (Ev.same ?_)
     rw[AE (by omega) (by omega)];rfl
   · refine Ev.AK rfl (Ev.same ?_)
     rw[AE (n:=n+1) (by omega) (by omega),AE (by omega) (by omega)];rfl
theorem oA {b:Int} (h:U b):Ev (λk=>Br.f k b) (near b):=by
 have hP:=Hu h;have a1:=Eh b;have a2:=GF b;by_cases hx:fx b=2047
 · rw[if_pos hx] at hP
   refine Ev.bind hP (Ev.AP (by decide) (Ev.step (λk=>Br.j0.eq_2 ..) (Ev.AK rfl (Ev.same ?_))));rw[ux (.inl hx)]
 · rw[if_neg hx] at hP
   refine Ev.bind hP (Ev.AK rfl (Ev.bind (FC (x:=pm b) (by unfold U;omega)) ?_));dsimp only;have b0:=B5 (pm b);have b1:bl (pm b)<=53:=Bw (n:=53) (by omega);have a3 : -1074<=pe b/\pe b<=972:=⟨a2.1,a2.2.1⟩;have a4:=a2.2.2.2;rw[AE (n:=bl (pm b)+pe b) (by omega) (by omega)];clear a2 hP;by_cases h1:bl (pm b)+pe b>62
   · refine Ev.step (λk=>Br.j0.eq_2 ..) (Ev.AK (decide_eq_true h1) (Ev.same ?_))
     rw[ux (.inr h1)]
   · rw[AAV hx (by omega)]
     refine Ev.step (λk=>Br.j0.eq_2 ..) (Ev.AP (by rw[decide_eq_false h1];decide) ?_);have l1:=Gf (pm b);generalize pm b=m at *;generalize pe b=e at *;generalize fs b=neg;by_cases h2:e>=0
     · refine Ev.AK h2 (Ev.AK h2 ?_)
       have hlt:m*2^e.toNat<2^62:=by
        have hp:=pow_pos e.toNat;have:=AOL l1 hp;rw[<-ANl] at this;have:=Az (a:=(bl m).toNat+e.toNat) (b:=62) (by omega);omega
       have hge:0<=m*2^e.toNat:=ANZ a1.1 (by have:=pow_pos e.toNat;omega);have er:ru m e 0=m*2^e.toNat:=by
        unfold ru;rw[show(0-e).toNat=0 by omega,LM,show e-0=e by omega]
       rw[er,Ke _ _ (by omega),ANv hge (by omega),AE (n:=m*2^e.toNat) (by omega) (by omega),AE (by omega) (by omega)];cases neg
       · exact Ev.AP (by decide) (Ev.same rfl)
       · exact Ev.AK rfl (Ev.same rfl)
     · refine Ev.AP h2 ?_
       by_cases h3:e> -64
       · refine Ev.AK h3 ?_
         obtain⟨d,hd⟩ : ∃d:Nat,-e=((d+1:Nat):Int):=⟨(-e).toNat-1,by omega⟩;have AGY:d+1<=63:=(by omega);have er:ru m e 0=Pv m (d+1):=by
          unfold ru;rw[show(0-e).toNat=d+1 by omega,show(e-0).toNat=0 by omega,ANc,ANr]
         rw[AE (n:= -e) (by omega) (by omega),AE (n:=64+e) (by omega) (by omega)];refine Ev.AK (by omega) (Ev.AK (by omega) ?_);have hp:=pow_pos (d+1);have q0:0<=m/2^(d+1):=ANd a1.1 (by omega);have q1:m/2^(d+1)<=m:=AOK _ a1.1;have r0:=ANk m (show(2:Int)^(d+1)≠0 by omega);have r1:=ANh m hp;have hH:(2:Int)^(d+1)=2*2^d:=(by rw[ANi,ANY]);have hGH:(2:Int)^(64-(d+1))*2^d=9223372036854775808:=(by rw[<-ANl,show 64-(d+1)+d=63 by omega];rfl);rw[VA _ _ (by omega),Ke _ _ (by omega),hd,ANI,show(64+e).toNat=64-(d+1) by omega,uy m (show 64-(d+1)<=64 by omega),show 64-(64-(d+1))=d+1 by omega,AE (n:=m/2^(d+1)) (by omega) (by omega),Xe,er];have hG:=pow_pos (64-(d+1));have J:=λt=>jf (n:=m/2^(d+1)) neg t q0 (by omega)
         rcases APT (m%2^(d+1)) (2^d) with hc | hc | hc
         · have:2^(64-(d+1))*(m%2^(d+1))<9223372036854775808:=by rw[<-hGH];exact AOr hc hG
           refine Ev.AP (by omega) (Ev.AP (by omega) ((J false).dF ?_));have e1:Pv m (d+1)=m/2^(d+1):=by
            unfold Pv;rw[if_neg (by omega)]
           rw[e1];rfl
         · refine Ev.AP (by rw[hc,hGH];omega) (Ev.AK (by rw[hc,hGH]) ((J _).dF ?_))
           have e1:Pv m (d+1)=if(m/2^(d+1)%2==1)=true then m/2^(d+1)+1 else m/2^(d+1):=by
            unfold Pv;by_cases ho:m/2^(d+1)%2=1
            · rw[if_pos (.inr ⟨by omega,ho⟩),if_pos (by rw[ho];rfl)]
            · rw[if_neg (by omega),if_neg (by rw[beq_iff_eq];exact ho)]
           rw[e1]
         · have:9223372036854775808<2^(64-(d+1))*(m%2^(d+1)):=by rw[<-hGH];exact AOr hc hG
           refine Ev.AK (by omega) ((J true).dF ?_);have e1:Pv m (d+1)=m/2^(d+1)+1:=by
            unfold Pv;rw[if_pos (.inl (by omega))]
           rw[e1];rfl
       · refine Ev.AP h3 ?_
         have er:ru m e 0=0:=by
          unfold ru;rw[show(e-0).toNat=0 by omega,ANc,ANr];have:=Az (a:=64) (b:=(0-e).toNat) (by omega);exact Wb a1.1 (by omega)
         rw[er];cases neg
         · exact Ev.AP (by decide) (Ev.same rfl)
         · exact Ev.AK rfl (Ev.same rfl)
theorem AAW (k c:Int) (hc:0<=c):mn (mx k (-c)) c=min (max k (-c)) c:=by
 unfold mn mx;split<;>split<;>omega
theorem jg {b k:Int} (h:U b):Ev (λr=>II.f r b k) (Tu b k):=by
 have hP:=Hu h;have a1:=Eh b;have a2:=GF b;unfold Tu;by_cases hx:fx b=2047
 · rw[if_pos hx] at hP ⊢
   exact Ev.bind hP (Ev.AP (by decide) (Ev.AX (Mr h) (Ev.same rfl)))
 · rw[if_neg hx] at hP ⊢
   refine Ev.bind hP (Ev.AK rfl ?_);dsimp only;have a3 : -1074<=pe b/\pe b<=972:=⟨a2.1,a2.2.1⟩;clear a2;rw[AAW k 5000 (by omega),AE (by omega) (by omega)];refine Ev.bind (CB (e:=pe b+min (max k (-5000)) 5000) (fs b) (m:=pm b) (by unfold U;omega)) (Ev.same ?_);rw[Lu (by omega) (by omega)]
def au (n:Int):Int:=fdiv 4607182418800017408 (fint n)
theorem Lx (n:Int):U (au n):=aU _ _
def JG:Nat->Int
 | 0=>1
 | n+1=>JG n*(n+1)
def AAX (r:Int):Nat->Int->Int
 | 0,p=>p
 | i+1,p=>AAX r i (QI (OK p r) (au (JG i)))
theorem AAY (r:Int) : ∀(i:Nat) {p:Int},U p->U (AAX r i p)
 | 0,_,h=>h
 | i+1,_,h=>AAY r i (JW (F2 _ _) (Lx _))
def ek (x:Int):Int:=(near (OK x 4609176140021203710)).1
def er (x:Int):Int:=rz (rz x (OK (fint (ek x)) 4604418534311723008)) (OK (fint (ek x)) 4461442080421002358)
def AAZ (x:Int):Int:=if fk x=4 then dG else if less (fint 710) x=true then WI else if less x (fint (-746))=true then 0 else Tu (AAX (er x) 13 (au (JG 13))) (ek x)
def AFK (z:Int):Nat->Int->Int
 | 0,p=>p
 | i+1,p=>AFK z i (QI (OK p z) (au (2*((i:Int)+1)+1)))
def ls (f:Int):Int:=fdiv (rz f 4607182418800017408) (QI 4611686018427387904 (rz f 4607182418800017408))
def lz (f:Int):Int:=OK (ls f) (ls f)
def lp (f:Int):Int:=AFK (lz f) 9 (au 21)
def ly (f:Int):Int:=QI (QI (ls f) (ls f)) (OK (QI (ls f) (ls f)) (OK (lp f) (lz f)))
def fz (f k:Int):Int:=if k=0 then ly f else QI (OK (fint k) 4604418534311723008) (QI (ly f) (OK (fint k) 4461442080421002358))
def Mt (x:Int):Int × Int:=if less 4609047870845172685 (Rd (pm x) (1-bl (pm x)))=true then(Rd (pm x) (-bl (pm x)),pe x+bl (pm x)) else(Rd (pm x) (1-bl (pm x)),pe x+bl (pm x)-1)
def AAa (x:Int):Int:=if fk x=0 then JU true WI else if fk x=4\/fs x=true then dG else if fk x=3 then x else fz (Mt x).1 (Mt x).2
theorem Sz:U 4607182418800017408/\U 4611686018427387904/\U 4609047870845172685/\U 4604418534311723008/\U 4461442080421002358/\U 4609176140021203710:=by unfold U;omega
theorem Ju {n:Int} (h0 : -9223372036854775808<=n) (h1:n<=9223372036854775807):Ev (λk=>Dl.f k n) (au n) :=
 Ev.bind (JY h0 h1) (Ev.bind (QX Sz.1 (aZ n)) (Ev.same rfl))
theorem ACw:JG 0=1/\JG 1=1/\JG 2=2/\JG 3=6/\JG 4=24/\JG 5=120/\JG 6=720/\JG 7=5040/\JG 8=40320/\JG 9=362880/\JG 10=3628800/\JG 11=39916800/\JG 12=479001600/\JG 13=6227020800:=by decide
theorem OO {n:Nat} (h:n<=13):1<=JG n/\JG n<=6227020800:=by
 have:=ACw;rcases(show n=0\/n=1\/n=2\/n=3\/n=4\/n=5\/n=6\/n=7\/n=8\/n=9\/n=10\/n=11\/n=12\/n=13 by omega) with h | h | h | h | h | h | h | h | h | h | h | h | h | h<;>subst h<;>omega
theorem gA {m d:Int} (h0:0<m) (h1:m<9007199254740992) (hd:d=0\/d=1):Mk false m (d-bl m)=(Rd m (d-bl m),true):=by
 have b1:bl m<=53:=Bw (n:=53) (by have:(2:Int)^53=9007199254740992:=rfl
                                  omega)
 have b2:=DY h0;have hu:un m (d-bl m)=d-53:=by unfold un;omega
 have:=QK false (m:=m) (e:=d-bl m) (by omega) (by omega) (by
  rw[hu,show(d-53-(d-bl m)).toNat=0 by omega,ANc,AOu])
 rw[this];rfl
theorem av {x:Int} (h:U x) (hx:fx x≠2047) (h0:0<pm x):Ev (λk=>F4.f k x) (Mt x):=by
 have P:=Hu h;rw[if_neg hx] at P;have pr:=Eh x;have pe_:=GF x
 have b1:bl (pm x)<=53:=Bw (n:=53) (by have:(2:Int)^53=9007199254740992:=rfl
                                       omega)
 have b2:=DY h0;have hU:U (pm x):=by unfold U;omega
 have hp:=pe_.2.2.1 hx;refine Ev.bind P (Ev.bind (FC hU) ?_);simp only[AE (show -9223372036854775808<=1-bl (pm x) by omega) (by omega),AE (show -9223372036854775808<= -bl (pm x) by omega) (by omega),AE (show -9223372036854775808<=pe x+bl (pm x) by omega) (by omega),AE (show -9223372036854775808<=pe x+bl (pm x)-1 by omega) (by omega)];have M1:=Ir false hU (e:=1-bl (pm x)) (by omega) (by omega);have M2:=Ir false hU (e:= -bl (pm x)) (by omega) (by omega);rw[gA h0 pr.2 (.inr rfl)] at M1;rw[show -bl (pm x)=0-bl (pm x) by omega,gA h0 pr.2 (.inl rfl)] at M2;have v1:=jV h0 pr.2 (l:=1-bl (pm x)) (by omega) (by omega);refine Ev.bind M1 (Ev.AX (J8 Sz.2.2.1 v1.2.2.2) ?_);unfold Mt;by_cases hl:less 4609047870845172685 (Rd (pm x) (1-bl (pm x)))=true
 · rw[if_pos hl]
   refine Ev.AK hl ?_;rw[show -bl (pm x)=0-bl (pm x) by omega];exact Ev.bind M2 (Ev.same rfl)
 · rw[if_neg hl]
   exact Ev.AP hl (Ev.same rfl)
theorem oC (f:Int):U (ls f):=aU _ _
theorem AGf (f:Int):U (lz f):=F2 _ _
theorem ACx (f:Int):U (ly f):=JW (JW (oC f) (oC f)) (F2 _ _)
theorem Tw {a b:Int} (ha:U a):U (rz a b):=JW ha (AFC b)
theorem jh {f e p:Int} (he0 : -5000<=e) (he1:e<=5000) (hp:U p) (i:Nat) (hi:i<=9) (hq:AFK (lz f) i p=lp f):Ev (λk=>Be.l0 k e (ls f) (lz f) p i) (fz f e):=by
 induction i generalizing p with
 | zero =>
   have hq:p=lp f:=hq;rw[hq];rw[hq] at hp;refine Ev.step (λk=>Be.l0.eq_2 ..) (Ev.AP (by omega) (Ev.bind (F3 (oC f) (oC f)) (Ev.bind (Dk hp (AGf f)) (Ev.bind (Dk (JW (oC f) (oC f)) (F2 _ _)) (Ev.bind (F3 (JW (oC f) (oC f)) (F2 _ _)) ?_)))));unfold fz;by_cases h0:e=0
   · rw[if_pos h0]
     exact Ev.AK h0 (Ev.same rfl)
   · rw[if_neg h0]
     exact Ev.AP h0 (Ev.bind (JY (by omega) (by omega)) (Ev.bind (Dk (aZ e) Sz.2.2.2.1) (Ev.bind (Dk (aZ e) Sz.2.2.2.2.1) (Ev.bind (F3 (ACx f) (F2 _ _)) (Ev.bind (F3 (F2 _ _) (JW (ACx f) (F2 _ _))) (Ev.same rfl))))))
 | succ i ih =>
   have e1:wrap64 (wrap64 (2*((i+1:Nat):Int))+1)=2*((i:Int)+1)+1:=(by rw[AE (n:=2*((i+1:Nat):Int)) (by omega) (by omega),AE (by omega) (by omega)];omega);have e2:wrap64 (((i+1:Nat):Int)-1)=(i:Int):=(by rw[AE (by omega) (by omega)];omega);refine Ev.step (λk=>Be.l0.eq_2 ..) (Ev.AK (by omega) ?_);simp only[e1,e2];exact Ev.bind (Dk hp (AGf f)) (Ev.bind (Ju (by omega) (by omega)) (Ev.bind (F3 (F2 _ _) (Lx _)) (ih (JW (F2 _ _) (Lx _)) (by omega) hq)))
theorem ji {x:Int} (h:U x):Ev (λk=>Be.f k x) (AAa x):=by
 refine Ev.AX (B3 h) ?_;unfold AAa;by_cases h0:fk x=0
 · rw[if_pos h0]
   exact Ev.AK h0 (Ev.AX (Fm true) (Ev.same rfl))
 rw[if_neg h0];refine Ev.AP h0 ?_;have j0 : ∀b:Bool,b=decide (fk x=4\/fs x=true)->Ev (λk=>Be.j0 k x (fk x) b) (if fk x=4\/fs x=true then dG else if fk x=3 then x else fz (Mt x).1 (Mt x).2):=λb hb=>by
  refine Ev.step (λk=>Be.j0.eq_2 ..) ?_;by_cases h4:fk x=4\/fs x=true
  · rw[if_pos h4]
    exact Ev.AK (by rw[hb];exact decide_eq_true h4) (Ev.AX EJ (Ev.same rfl))
  · rw[if_neg h4]
    refine Ev.AP (by rw[hb,decide_eq_false h4];decide) ?_;by_cases h3:fk x=3
    · rw[if_pos h3]
      exact Ev.AK h3 (Ev.same rfl)
    · rw[if_neg h3]
      have hx:=KU (λk=>h4 (.inl k)) h3;have hp:0<pm x:=by
       have:=(U7 x).2.2.2.1;have:=Eh x;rcases(show pm x=0\/0<pm x by omega) with k | k
       · exact absurd ((U7 x).2.2.2.1.2 ⟨hx,k⟩) h0
       · exact k
      have pr:=Eh x;have pe_:=GF x;have hpe:=pe_.2.2.1 hx
      have b1:bl (pm x)<=53:=Bw (n:=53) (by have:(2:Int)^53=9007199254740992:=rfl
                                            omega)
      have b2:=DY hp;have v1:=jV hp pr.2 (l:=1-bl (pm x)) (by omega) (by omega);have v2:=jV hp pr.2 (l:= -bl (pm x)) (by omega) (by omega);have hU:U (Mt x).1/\ -5000<=(Mt x).2/\(Mt x).2<=5000:=by
       unfold Mt;split
       · exact⟨v2.2.2.2,by dsimp only;omega,by dsimp only;omega⟩
       · exact⟨v1.2.2.2,by dsimp only;omega,by dsimp only;omega⟩
      refine Ev.AP h3 (Ev.bind (av h hx hp) (Ev.bind (ON hU.1 Sz.1) (Ev.bind (F3 Sz.2.1 (Tw hU.1)) (Ev.bind (QX (Tw hU.1) (JW Sz.2.1 (Tw hU.1))) (Ev.bind (Dk (aU _ _) (aU _ _)) (Ev.bind (Ju (by omega) (by omega)) ?_))))));exact jh hU.2.1 hU.2.2 (Lx _) 9 (by omega) rfl
 by_cases h4:fk x=4
 · exact Ev.AK h4 (j0 true (by rw[decide_eq_true (.inl h4)]))
 · refine Ev.AP h4 (Ev.AX (DR h) (j0 _ ?_))
   cases hs:fs x
   · rw[decide_eq_false (by rintro(k | k);exact h4 k;cases k)]
   · rw[decide_eq_true (.inr rfl)]
theorem sC {b:Int} (h:U b) : -9223372036854775808<=(near b).1/\(near b).1<=9223372036854775807:=by
 unfold near;split
 · exact⟨by decide,by decide⟩
 · rename_i hh
   have p:=Eh b;have key:0<=ru (pm b) (pe b) 0/\ru (pm b) (pe b) 0<=9223372036854775807:=by
    have l1:=Gf (pm b);have hb:bl (pm b)+pe b<=62:=by
     rcases AN7 62 (bl (pm b)+pe b) with k | k
     · exact absurd (.inr k) hh
     · exact k
    have b0:=B5 (pm b);by_cases h2:0<=pe b
    · have hp:=pow_pos (pe b).toNat
      have h3:=AOL l1 hp;rw[<-ANl] at h3;have h4:=Az (a:=(bl (pm b)).toNat+(pe b).toNat) (b:=62) (by omega);have e62:(2:Int)^62=4611686018427387904:=rfl;have hge:0<=pm b*2^(pe b).toNat:=ANZ p.1 (ANL hp);unfold ru;rw[show(0-pe b).toNat=0 by omega,LM,show pe b-0=pe b by omega];omega
    · unfold ru
      rw[show(pe b-0).toNat=0 by omega,ANc,ANr];have r:=AAb (pm b) (0-pe b).toNat;have q:=AOK (2^(0-pe b).toNat) p.1;have q2:=ANd p.1 (ANL (pow_pos (0-pe b).toNat));omega
   split
   · exact⟨by dsimp only;omega,by dsimp only;omega⟩
   · exact⟨by dsimp only;omega,by dsimp only;omega⟩
theorem AJd {x:Int} (h:U x):U (er x):=Tw (Tw h)
def oD (i:Nat):List Int:=(List.range 14).map λj=>if j<=i then JG j else 0
theorem VG (i:Nat):(oD i).length=14:=by simp[oD]
theorem AAc : ∀i:Fin 13,(oD i.1).set (i.1+1) (JG (i.1+1))=oD (i.1+1):=by decide
theorem AAd : ∀i:Fin 14,∀j:Fin 14,j.1<=i.1->(oD i.1).getD j.1 0=JG j.1:=by decide
theorem jk {i j:Nat} (hi:i<14) (hj:j<=i):rd (oD i) (j:Int)=JG j:=AAd ⟨i,hi⟩ ⟨j,by omega⟩ hj
theorem dm {r p e:Int} (hr:U r) (hp:U p) (i:Nat) (hi:i<=13):Ev (λk=>BW.l1 k e r (oD 13) p ((i:Int)-1)) (Tu (AAX r i p) e):=by
 induction i generalizing p with
 | zero=>exact Ev.step (λk=>BW.l1.eq_2 ..) (Ev.AP (by omega) (Ev.bind (jg hp) (Ev.same rfl)))
 | succ i ih =>
   have e0:((i+1:Nat):Int)-1=(i:Int):=(by omega);have e2:wrap64 ((i:Int)-1)=(i:Int)-1:=AE (by omega) (by omega);have f1:=OO (n:=i) (by omega);rw[e0];refine Ev.step (λk=>BW.l1.eq_2 ..) (Ev.AK (by omega) (Ev.bind (Dk hp hr) (Ev.AK (by omega) (Ev.AK (by omega) (Ev.AK (by rw[VG];omega) ?_)))));rw[jk (by omega) (by omega),e2];exact Ev.bind (Ju (by omega) (by omega)) (Ev.bind (F3 (F2 _ _) (Lx _)) (ih (JW (F2 _ _) (Lx _)) (by omega)))
theorem dr {r e:Int} (hr:U r) (d:Nat) : ∀i:Nat,i+d=13->Ev (λk=>BW.l0 k e r (oD i) i) (Tu (AAX r 13 (au (JG 13))) e):=by
 induction d with
 | zero =>
   intro i hi;obtain rfl:i=13:=by omega
   have f1:=OO (n:=13) (by omega);refine Ev.step (λk=>BW.l0.eq_2 ..) (Ev.AP (by omega) (Ev.AK (by rw[VG];omega) ?_));rw[show(13:Int)=((13:Nat):Int) from rfl,jk (by omega) (by omega)];exact Ev.bind (Ju (by omega) (by omega)) (dm hr (Lx _) 13 (by omega))
 | succ d ih =>
   intro i hi;have f1:=OO (n:=i) (by omega);have f2:=OO (n:=i+1) (by omega);have e1:wrap64 ((i:Int)+1)=((i+1:Nat):Int):=(by rw[AE (by omega) (by omega)];rfl);have e2:wrap64 (JG i*((i+1:Nat):Int))=JG (i+1):=by
    have:JG i*((i+1:Nat):Int)=JG (i+1):=rfl;rw[this,AE (by omega) (by omega)]
   refine Ev.step (λk=>BW.l0.eq_2 ..) (Ev.AK (by omega) ?_);rw[jk (by omega) (by omega)];simp only[e1,e2];refine Ev.AK (by omega) (Ev.AK (by omega) (Ev.AK (by rw[VG];omega) (Ev.AK (by omega) (Ev.AK (by omega) (Ev.AK (by rw[VG];omega) ?_)))));rw[show(((i+1:Nat):Int)).toNat=i+1 by omega,AAc ⟨i,by omega⟩];exact ih (i+1) (by omega)
theorem AAe:fint 710=4649456441864749056:=by decide
theorem AAf:fint (-746)=13873145138068324352:=by decide
theorem jl {x:Int} (h:U x):Ev (λk=>BW.f k x) (AAZ x):=by
 refine Ev.AX (B3 h) ?_;unfold AAZ;by_cases h4:fk x=4
 · rw[if_pos h4]
   exact Ev.AK h4 (Ev.AX EJ (Ev.same rfl))
 rw[if_neg h4];have u1:U 4649456441864749056:=by unfold U;omega
 have u2:U 13873145138068324352:=by unfold U;omega
 rw[AAe,AAf];refine Ev.AP h4 (Ev.AX (J8 u1 h) ?_);by_cases h1:less 4649456441864749056 x=true
 · rw[if_pos h1]
   exact Ev.AK h1 (Ev.AX (Fm false) (Ev.same rfl))
 rw[if_neg h1];refine Ev.AP h1 (Ev.AX (J8 h u2) ?_);by_cases h2:less x 13873145138068324352=true
 · rw[if_pos h2]
   exact Ev.AK h2 (Ev.same rfl)
 rw[if_neg h2];have nr:=sC (F2 x 4609176140021203710);refine Ev.AP h2 (Ev.bind (Dk h Sz.2.2.2.2.2) (Ev.bind (oA (F2 _ _)) (Ev.bind (JY nr.1 nr.2) (Ev.bind (Dk (aZ _) Sz.2.2.2.1) (Ev.bind (ON h (F2 _ _)) (Ev.bind (Dk (aZ _) Sz.2.2.2.2.1) (Ev.bind (ON (Tw h) (F2 _ _)) ?_)))))));exact dr (AJd h) 13 0 (by omega)
section
abbrev R3:=Bool × List Int × List Int
def en (x:Rat):R3:=Rq x.num x.den
theorem den_pos (x:Rat):(0:Int)<x.den:=by have:=x.den_nz;omega
theorem S0 (S:Int) {D:Int} (hD:0<D):(Rat.divInt S D).num*D=S*(Rat.divInt S D).den:=by
 have e:=Rat.num_divInt_den (Rat.divInt S D);exact(Rat.divInt_eq_divInt_iff (by have:=den_pos (Rat.divInt S D);omega) (by omega)).1 e
theorem Ru (S:Int) {D:Int} (hD:0<D):en (Rat.divInt S D)=Rq S D:=fX (den_pos _) hD (S0 S hD)
theorem E3 (x:Rat):Rat.divInt x.num x.den=x:=Rat.num_divInt_den x
def Bd (n:Int) (x:Rat):Prop:=Fb n x.num x.den
theorem Bd.mono {n m:Int} {x:Rat} (h:Bd n x) (hm:n<=m):Bd m x:=⟨h.1,APC h.2.1 hm,APC h.2.2 hm⟩
theorem KV {n:Int} {x:Rat} (h:Bd n x) (hn:n<=14000):Fit x.num x.den:=AAE h hn
theorem Tx (x:Rat):gc (ab x.num) x.den=1:=by
 have h:=x.reduced;unfold gc;have e:(ab x.num).toNat=x.num.natAbs:=by unfold ab;split<;>omega
 rw[e,ANI]
 exact_mod_cast h
theorem Wj {n S D:Int} (h:Fb n S D):Bd n (Rat.divInt S D):=by
 have c:=S0 S h.1;obtain⟨N,E,h1,h2,h3,h4,h5,h6,h7,h8⟩:=U5 S h.1;have hx:=den_pos (Rat.divInt S D);generalize Rat.divInt S D=x at *;have g:=Tx x;have e:Rq x.num x.den=Rq S D:=fX hx h.1 c;obtain⟨N',E',k1,k2,k3,k4,k5,k6,k7,k8⟩:=U5 x.num hx;rw[e,h1] at k1;simp only[APE] at k1;obtain⟨_,e2,e3⟩:=k1;have e2:=jm h2 k2 e2;have e3:=jm (ANL h3) (ANL k3) e3;obtain⟨a1,a2⟩:ab x.num=N'/\(x.den:Int)=E':=by
  by_cases hz:x.num=0
  · have:(x.den:Int)=1:=by
     rw[hz,show ab 0=0 from rfl,Ip,Iv (by omega)] at g;exact g
    have n0:N'=0:=k7.2 hz;refine⟨by rw[hz,n0];rfl,by omega⟩
  · have u1:Rq x.num x.den=(decide (x.num<0),dg (ab x.num/gc (ab x.num) x.den),dg ((x.den:Int)/gc (ab x.num) x.den)):=by unfold Rq;rw[if_neg hz]
    rw[g,AON,AON,e,h1] at u1;simp only[APE] at u1;exact⟨by rw[<-e2];exact(jm h2 (DN _) u1.2.1).symm,by rw[<-e3];exact(jm (ANL h3) (ANL hx) u1.2.2).symm⟩
 have b1:=Bv h4;have b2:=Bv h5;have hh:=h.2;exact⟨hx,by rw[a1,<-e2];omega,by rw[a2,<-e3];omega⟩
theorem ay (x y:Rat):x+y=Rat.divInt (x.num*y.den+y.num*x.den) (x.den*y.den):=by
 conv=>lhs;rw[<-E3 x,<-E3 y]
 exact Rat.divInt_add_divInt _ _ (by have:=den_pos x;omega) (by have:=den_pos y;omega)
theorem sD (x y:Rat):x-y=Rat.divInt (x.num*y.den-y.num*x.den) (x.den*y.den):=by
 conv=>lhs;rw[<-E3 x,<-E3 y]
 exact Rat.divInt_sub_divInt _ _ (by have:=den_pos x;omega) (by have:=den_pos y;omega)
theorem az (x y:Rat):x*y=Rat.divInt (x.num*y.num) (x.den*y.den):=by
 conv=>lhs;rw[<-E3 x,<-E3 y]
 exact AQi ..
theorem QY (x y:Rat):(0:Int)<(x.den:Int)*y.den:=AOY (den_pos x) (den_pos y)
theorem QZ {x:Rat} :x.num=0↔x=0:=Rat.num_eq_zero
theorem AFL {x:Int} (h:x≠0):0<ab x:=by have:=DN x;have:= @Ro x;omega
theorem inv_divInt (y:Rat) (hy:y≠0):y⁻¹ =Rat.divInt (IS y.num y.den) (ab y.num):=by
 conv=>lhs;rw[<-E3 y]
 rw[Rat.inv_divInt];have hz:y.num≠0:=λk=>hy (QZ.1 k)
 unfold IS He ab;by_cases hs:y.num<0
 · rw[decide_eq_true hs,if_pos rfl,if_pos hs,Rat.neg_divInt_neg]
 · rw[decide_eq_false hs,if_neg (by decide),if_neg hs]
theorem bC (x y:Rat) (hy:y≠0):x/y=Rat.divInt (x.num*IS y.num y.den) (x.den*ab y.num):=by
 rw[Rat.div_def,inv_divInt y hy]
 conv=>lhs;rw[<-E3 x]
 exact AQi ..
theorem AAg {n:Int} {x:Rat} (h:Bd n x):Bd n (-x):=AAF h
theorem AAh {n m:Int} {x y:Rat} (h:Bd n x) (h':Bd m y):Bd (n+m+1) (x+y):=by
 rw[ay];exact Wj (AAG h h')
theorem AFM {n m:Int} {x y:Rat} (h:Bd n x) (h':Bd m y):Bd (n+m+1) (x-y):=by
 rw[Rat.sub_eq_add_neg];exact AAh h (AAg h')
theorem AFN {n m:Int} {x y:Rat} (h:Bd n x) (h':Bd m y):Bd (n+m) (x*y):=by
 rw[az];exact Wj (AAH h h')
theorem AAi {n m:Int} {x y:Rat} (h:Bd n x) (h':Bd m y) (hy:y≠0):Bd (n+m) (x/y):=by
 rw[bC x y hy];exact Wj (AAH h (AAI h' (λk=>hy (QZ.1 k))))
variable {x y:Rat} {n m:Int}
theorem xB (hx:Bd n x) (hn:n<=14000):Ev (λk=>Jr.f k (en x).1 (en x).2.1 (en x).2.2) (en (-x)):=fT (KV hx hn)
theorem AFO (x y:Rat):Rq (x.num*y.den+y.num*x.den) (x.den*y.den)=en (x+y):=by rw[ay,Ru _ (QY x y)]
theorem AFP (x y:Rat):Rq (x.num*y.den-y.num*x.den) (x.den*y.den)=en (x-y):=by rw[sD,Ru _ (QY x y)]
theorem AFQ (x y:Rat):Rq (x.num*y.num) (x.den*y.den)=en (x*y):=by rw[az,Ru _ (QY x y)]
theorem AFR (x y:Rat) (hy:y≠0):Rq (x.num*IS y.num y.den) (x.den*ab y.num)=en (x/y):=by
 rw[bC x y hy,Ru];exact AOY (den_pos x) (AFL λk=>hy (QZ.1 k))
theorem gB (hx:Bd n x) (hy:Bd m y) (hn:n<=14000) (hm:m<=14000):Ev (λk=>Iw.f k (en x).1 (en x).2.1 (en x).2.2 (en y).1 (en y).2.1 (en y).2.2) (en (x+y)):=Ev.dF (fW (KV hx hn) (KV hy hm)) (AFO x y)
theorem xC (hx:Bd n x) (hy:Bd m y) (hn:n<=14000) (hm:m<=14000):Ev (λk=>Js.f k (en x).1 (en x).2.1 (en x).2.2 (en y).1 (en y).2.1 (en y).2.2) (en (x-y)):=Ev.dF (fU (KV hx hn) (KV hy hm)) (AFP x y)
theorem xD (hx:Bd n x) (hy:Bd m y) (hn:n<=14000) (hm:m<=14000):Ev (λk=>Im.f k (en x).1 (en x).2.1 (en x).2.2 (en y).1 (en y).2.1 (en y).2.2) (en (x*y)):=Ev.dF (fY (KV hx hn) (KV hy hm)) (AFQ x y)
def qo (x y:Rat):Bool × List Int × List Int × Int:=if y=0 then(false,[],[],4) else((en (x/y)).1,(en (x/y)).2.1,(en (x/y)).2.2,0)
theorem Wk (hx:Bd n x) (hy:Bd m y) (hn:n<=14000) (hm:m<=14000):Ev (λk=>Jt.f k (en x).1 (en x).2.1 (en x).2.2 (en y).1 (en y).2.1 (en y).2.2) (qo x y):=by
 refine Ev.dF (wm (KV hx hn) (KV hy hm)) ?_;unfold qo;by_cases hz:y=0
 · rw[if_pos (QZ.2 hz),if_pos hz]
 · rw[if_neg (λk=>hz (QZ.1 k)),if_neg hz,AFR x y hz]
theorem Qa (x:Rat):en x=(decide (x.num<0),dg (ab x.num),dg x.den):=by
 unfold en Rq;by_cases hz:x.num=0
 · have g:=Tx x
   rw[hz,show ab 0=0 from rfl,Ip,Iv (by have:=den_pos x;omega)] at g;rw[if_pos hz,hz,g,show ab 0=0 from rfl,G8,bD];rfl
 · rw[if_neg hz,Tx,AON,AON]
def de (q:R3):Rat:=Rat.divInt (He q.1 (nv q.2.1)) (nv q.2.2)
theorem ADn (x:Rat):de (en x)=x:=by
 rw[Qa];unfold de;rw[Aa (DN _),Aa (ANL (den_pos x))];have:He (decide (x.num<0)) (ab x.num)=x.num:=by
  unfold He ab;by_cases h:x.num<0
  · rw[if_pos h,if_pos (decide_eq_true h)];omega
  · rw[if_neg h,if_neg (by rw[decide_eq_false h];decide)]
 rw[this,E3]
end
abbrev I6:=Int × Int × Int × Bool × List Int × List Int
theorem Rv {α:Type} {l:List α} {d:α} {i:Nat} (h:i<l.length):l.getD i d=l[i]:=by
 rw[ANJ,ANX h];rfl
theorem AAj {P:Nat->Prop} {n i:Nat} (h:i<n):(∀j,i<=j->j<n->P j)↔P i/\ ∀j,i+1<=j->j<n->P j :=
 ⟨λk=>⟨k i (by omega) h,λj h1 h2=>k j (by omega) h2⟩,λk j h1 h2=>by
   rcases(show j=i\/i+1<=j by omega) with rfl | h3
   · exact k.1
   · exact k.2 j h3 h2⟩
def zR:R3:=(false,[],[])
def BdL (n:Int) (l:List Rat):Prop:= ∀x∈l,Bd n x
theorem BdL.mono {n m:Int} {l:List Rat} (h:BdL n l) (hm:n<=m):BdL m l:=λx hx=>(h x hx).mono hm
theorem AAk {n:Int} {x:Rat} (h:Bd n x) (hn:n<=60000):(en x).2.1.length<=1000/\(en x).2.2.length<=1000:=by
 rw[Qa];have a:=AW (ab x.num);have b:=AW (x.den:Int);have:=h.2;dsimp only;omega
theorem xE {b:Int} (hb:U b) : ∃w,U w/\Ev (λk=>B6.f k b) w/\Ev (λk=>Cw.f k b) w:=by
 by_cases h4:fk b=4
 · exact⟨dG,XY,Sw hb (.inl h4),Sy hb (.inl h4)⟩
 · by_cases h0:fk b=0
   · exact⟨b,hb,PO hb (.inl h0),PR hb (.inl h0)⟩
   · cases hs:fs b
     · by_cases h3:fk b=3
       · exact⟨b,hb,PO hb (.inr ⟨h3,hs⟩),PR hb (.inr ⟨h3,hs⟩)⟩
       · have hz:pm b≠0:=λk=>h0 ((U7 b).2.2.2.1.2 ⟨KU h4 h3,k⟩)
         have hp:=Eh b;obtain⟨w,hw⟩:=ACs (show 0<pm b by omega) (pe b);have hU:U w:=by
          obtain⟨up,c,r,_,_,_,e⟩:=hw;rw[e];have:=LK (sv (pm b*2^up) r) c;unfold WI at this;unfold U;omega
         exact⟨w,hU,jZ hb h4 h3 h0 hs hw,jd hb h4 h3 h0 hs hw⟩
     · exact⟨dG,XY,Sw hb (.inr ⟨h0,hs⟩),Sy hb (.inr ⟨h0,hs⟩)⟩
theorem ACy (f k:Int):U (fz f k):=by
 unfold fz;split
 · exact ACx f
 · exact JW (F2 _ _) (JW (ACx f) (F2 _ _))
theorem AFS {x:Int} (h:U x):U (AAa x):=by
 unfold AAa;split
 · exact aT true
 · split
   · exact XY
   · split
     · exact h
     · exact ACy _ _
theorem AFT (x:Int):U (AAZ x):=by
 unfold AAZ;split
 · exact XY
 · split
   · unfold U WI;omega
   · split
     · unfold U;omega
     · exact AAR (AAY _ _ (Lx _)) _
theorem AJe (neg:Bool) (N D:Int):U (fR neg N D):=by
 unfold fR;split
 · unfold U;omega
 · have h:0<=fq N D/\fq N D<=WI:=by
    unfold fq;split
    · unfold WI;omega
    · split
      · unfold WI;omega
      · exact LK _ _
   exact(JV h.1 (by have:=h.2;unfold WI at this;omega) neg).1
theorem AGg {b:Int} (h:U b):U (cl b):=by
 unfold cl;split
 · exact XY
 · exact h
def jo (sq:Int->Int):Prop:= ∀b,U b->U (sq b)/\Ev (λk=>B6.f k b) (sq b)/\Ev (λk=>Cw.f k b) (sq b)
theorem ACe : ∃sq,jo sq:=by
 have : ∀b:Int,∃w,U b->U w/\Ev (λk=>B6.f k b) w/\Ev (λk=>Cw.f k b) w:=λb=>by
  by_cases h:U b
  · obtain⟨w,hw⟩:=xE h
    exact⟨w,λ_=>hw⟩
  · exact⟨0,λk=>absurd k h⟩
 exact⟨λb=>Classical.choose (this b),λb=>Classical.choose_spec (this b)⟩
def fdo (sq:Int->Int) (op a b:Int):Int:=if op=3 then fl a else if op=4 then QI a b else if op=5 then rz a b else if op=6 then OK a b else if op=7 then fdiv a b else if op=8 then sq a else if op=9 then AAZ a else AAa a
theorem AGh {sq:Int->Int} (hq:jo sq) {op a b:Int} (ha:U a) (hb:U b):U (fdo sq op a b):=by
 unfold fdo
 repeat' split
 · exact AFC a
 · exact JW ha hb
 · exact Tw ha
 · exact F2 a b
 · exact aU a b
 · exact(hq a ha).1
 · exact AFT a
 · exact AFS ha
abbrev V5:=(Bool × List Int × List Int) × Int × Int
abbrev BT:=Int × Int × List I6 × List Bool × List Bool × Int × Int × Bool × Int
def BS (m:Int) (met:List Bool) (n:Int) (tie:Bool) (e:Int):BT:=(m,0,[],[],met,0,n,tie,e)
def wv {S:Type} (v:V5) (s:S):Bool × List Int × List Int × Int × Int × S:=(v.1.1,v.1.2.1,v.1.2.2,v.2.1,v.2.2,s)
def zV:V5:=((false,[],[]),0,0)
def dH (c m:Int) (v:V5):Prop:=(m=0/\ ∃q,Bd c q/\v=(en q,0,0))\/(m=1/\ ∃b,U b/\v=((false,[],[]),b,0))
def Res (m:Int) (v:V5) (e:Int):Prop:=(e=0/\dH 6000 m v)\/(e≠0/\v=zV)
theorem DG (m i:Int) (p:List I6) (ak met:List Bool) (ad n:Int) (tie:Bool) (e:Int):Ev (λk=>BL.f k m i p ak met ad n tie e) (!(e==0),m,i,p,ak,met,ad,n,tie,e):=⟨0,λ_ _=>rfl⟩
theorem Wm (m i:Int) (p:List I6) (ak met:List Bool) (ad n:Int) (tie:Bool) (x:Int):Ev (λk=>A7.f k m i p ak met ad n tie 0 x) (m,i,p,ak,met,ad,n,tie,x):=⟨0,λ_ _=>rfl⟩
theorem jq : ¬(!((0:Int)==0))=true:=by decide
theorem jr : ¬(1:Int)=0:=by decide
theorem U_0:U 0:=by unfold U;decide
theorem AAl {p:Int} :Rq p 1=en (p:Rat):=by
 unfold en;simp
theorem bE {p:Int} (h0 : -9223372036854775808<=p) (h1:p<=9223372036854775807):Bd 64 (p:Rat):=by
 unfold Bd Fb;rw[Rat.num_intCast,Rat.den_intCast];refine⟨by decide,QJ ?_,QJ (by decide)⟩;unfold ab;split<;>omega
def dI (p:Int):Prop:= -9223372036854775808<=p/\p<=9223372036854775807
theorem sF {m:Int} {met:List Bool} {n:Int} {tie:Bool} {p q:Int} (hp:dI p) (hq:dI q) :
 (q≠0->Ev (λk=>BX.f k m 0 [] [] met 0 n tie 0 p q) ((en ((p:Rat)/(q:Rat))).1,(en ((p:Rat)/(q:Rat))).2.1,(en ((p:Rat)/(q:Rat))).2.2,BS m met n tie 0)) /\
 (q=0->Ev (λk=>BX.f k m 0 [] [] met 0 n tie 0 p q) (false,[],[],BS m met n tie 4)):=by
 have e1:=VH hq.1 hq.2;have e2:=VH hp.1 hp.2;rw[AAl] at e1 e2;have e3:=Wk (bE hp.1 hp.2) (bE hq.1 hq.2) (by omega) (by omega);refine⟨λh=> ?_,λh=> ?_⟩
 · have hz : ¬(q:Rat)=0:=λz=>h (by exact_mod_cast z)
   rw[qo,if_neg hz] at e3;exact Ev.bind e1 (Ev.bind e2 (Ev.bind e3 (Ev.bind (Wm _ _ _ _ _ _ _ _ _) (Ev.same rfl))))
 · subst h
   rw[qo,if_pos (by rfl)] at e3;exact Ev.bind e1 (Ev.bind e2 (Ev.bind e3 (Ev.bind (Wm _ _ _ _ _ _ _ _ _) (Ev.same rfl))))
theorem sG {p q:Int} (hp:dI p) (hq:dI q) (h:q≠0):Bd 128 ((p:Rat)/(q:Rat)):=AAi (bE hp.1 hp.2) (bE hq.1 hq.2) (λz=>h (by exact_mod_cast z))
theorem AAm {x:Rat} (h:Bd 128 x):(en x).2.1.length<=30/\(en x).2.2.length<=30:=by
 rw[Qa];have a:=AW (ab x.num);have b:=AW (x.den:Int);have:=h.2;dsimp only;omega
theorem dw {sq:Int->Int} (hq:jo sq) {op a b:Int} (ua:U a) (ub:U b):Ev (λk=>Gn.f k op a b) (fdo sq op a b):=by
 unfold fdo;by_cases h3:op=3
 · rw[if_pos h3];exact Ev.AK h3 (Ev.AX (U8 ua) (Ev.same rfl))
 rw[if_neg h3];refine Ev.AP h3 ?_;by_cases h3:op=4
 · rw[if_pos h3];exact Ev.AK h3 (Ev.bind (F3 ua ub) (Ev.same rfl))
 rw[if_neg h3];refine Ev.AP h3 ?_;by_cases h3:op=5
 · rw[if_pos h3];exact Ev.AK h3 (Ev.bind (ON ua ub) (Ev.same rfl))
 rw[if_neg h3];refine Ev.AP h3 ?_;by_cases h3:op=6
 · rw[if_pos h3];exact Ev.AK h3 (Ev.bind (Dk ua ub) (Ev.same rfl))
 rw[if_neg h3];refine Ev.AP h3 ?_;by_cases h3:op=7
 · rw[if_pos h3];exact Ev.AK h3 (Ev.bind (QX ua ub) (Ev.same rfl))
 rw[if_neg h3];refine Ev.AP h3 ?_;by_cases h3:op=8
 · rw[if_pos h3];exact Ev.AK h3 (Ev.bind (hq _ ua).2.1 (Ev.same rfl))
 rw[if_neg h3];refine Ev.AP h3 ?_;by_cases h3:op=9
 · rw[if_pos h3];exact Ev.AK h3 (Ev.bind (jl ua) (Ev.same rfl))
 rw[if_neg h3];exact Ev.AP h3 (Ev.bind (ji ua) (Ev.same rfl))
theorem ACz {sq:Int->Int} {op a b b':Int} (h : ¬(4<=op/\op<=7)):fdo sq op a b=fdo sq op a b':=by
 unfold fdo;by_cases h3:op=3
 · rw[if_pos h3,if_pos h3]
 have n4 : ¬op=4:=by omega
 have n5 : ¬op=5:=by omega
 have n6 : ¬op=6:=by omega
 have n7 : ¬op=7:=by omega
 rw[if_neg h3,if_neg h3,if_neg n4,if_neg n4,if_neg n5,if_neg n5,if_neg n6,if_neg n6,if_neg n7,if_neg n7]
theorem Qb {m n:Int} {met:List Bool} {b t:Bool} (hl:met.length<=1000000):Ev (λk=>AZ.xF k b m 0 [] [] met 0 n t 0) (b,BS m (met++ [b]) n t 0) :=
 Ev.step (λk=>AZ.xF.eq_2 ..) (Ev.AK rfl (Ev.AK (by omega) (Ev.same rfl)))
section
theorem AGi {c m:Int} {v:V5} (h:dH c m v):U v.2.1:=by
 rcases h with⟨_,q,_,rfl⟩ | ⟨_,b,hb,rfl⟩
 · exact U_0
 · exact hb
section
variable {m:Int} {met:List Bool} {n:Int} {tie:Bool} {e:Int}
end
def bck (l:List V5) (a:Int):V5:=if a<1 then zV else if a>(l.length:Int) then zV else l.getD ((l.length:Int)-a).toNat zV
theorem jt {l:List V5} {t:List Bool} {a:Int} (hl:l.length<=1000000):Ev (λk=>AU.f k l t a) (wv (bck l a) (l,t)):=by
 unfold bck;by_cases h1:a<1
 · rw[if_pos h1]
   exact Ev.AK h1 (Ev.step (λk=>AU.j2.eq_2 ..) (Ev.same rfl))
 rw[if_neg h1];refine Ev.AP h1 ?_;by_cases h2:a>(l.length:Int)
 · rw[if_pos h2]
   exact Ev.AK h2 (Ev.step (λk=>AU.j2.eq_2 ..) (Ev.same rfl))
 rw[if_neg h2];have ew:wrap64 ((l.length:Int)-a)=(l.length:Int)-a:=by rw[AE (by omega) (by omega)]
 refine Ev.AP h2 (Ev.AK (by rw[ew];omega) (Ev.AK (by rw[ew];omega) (Ev.same ?_)));rw[ew];rfl
end
section
def oB (m:Int) (met:List Bool) (n:Int) (tie:Bool) (e:Int) (l:List V5) (t:List Bool):Int × Int × List I6 × List Bool × List Bool × Int × Int × Bool × Int × List V5 × List Bool:=(m,0,[],[],met,0,n,tie,e,l,t)
section
variable {m K A B P Q W n e:Int} {met t:List Bool} {tie:Bool} {l:List V5}
theorem s9 (h:K≠11):Ev (λk=>AA.j9 k K A B P Q W m 0 [] [] met 0 n tie e l t) (oB m met n tie e l t):=Ev.step (λk=>AA.j9.eq_2 ..) (Ev.AP h (Ev.same rfl))
theorem s7 (h:K≠11) (h2 : ¬(3<=K/\K<=10)):Ev (λk=>AA.j7 k K A B P Q W m 0 [] [] met 0 n tie e l t) (oB m met n tie e l t):=by
 refine Ev.step (λk=>AA.j7.eq_2 ..) ?_;by_cases h3:K>=3
 · exact Ev.AK h3 (Ev.AP (by omega) (s9 h))
 · exact Ev.AP h3 (s9 h)
theorem s5 (h:K=0):Ev (λk=>AA.j5 k K A B P Q W m 0 [] [] met 0 n tie e l t) (oB m met n tie e l t):=Ev.step (λk=>AA.j5.eq_2 ..) (Ev.AP (by omega) (s7 (by omega) (by omega)))
theorem dH.mono {c d m:Int} {v:V5} (h:dH c m v) (hc:c<=d):dH d m v:=by
 rcases h with⟨h,q,hq,r⟩ | h
 · exact .inl ⟨h,q,hq.mono hc,r⟩
 · exact .inr h
end
end
theorem Ly {l:List V5} {a:Int} (h1:1<=a) (h2:a<=l.length):bck l a∈l:=by
 unfold bck;rw[if_neg (by omega),if_neg (by omega),Rv (by omega)];exact AO3 _
theorem ju (s:Bool) (a b:List Int) (m:Int) : ∃r,Cu.f s a b m=some r/\(r=false↔(a.length:Int)<=m/\(b.length:Int)<=m):=by
 unfold Cu.f;by_cases h:(a.length:Int)>m
 · rw[if_pos h];exact⟨true,rfl,by simp;omega⟩
 · rw[if_neg h]
   refine⟨_,rfl, ?_⟩;rw[decide_eq_false_iff_not];omega
theorem ADo (l:List V5) (i:Nat):DH l (i:Int)=l.getD i zV:=by
 show l.getD ((i:Int)).toNat zV=_;rw[ANI]
theorem AFU {l:List V5} (hl:l.length<=1000000) (m:Int) (d:Nat) : ∀i:Nat,i+d=l.length-> ∃r,Ev (λk=>BD.l0 k l m (l.length:Int) i) r/\(r=false-> ∀j:Nat,i<=j->j<l.length->((l.getD j zV).1.2.1.length:Int)<=m/\((l.getD j zV).1.2.2.length:Int)<=m):=by
 induction d with
 | zero =>
   intro i h;exact⟨false,Ev.step (λk=>BD.l0.eq_2 ..) (Ev.AP (by omega) (Ev.same rfl)),λ_ j h1 h2=>by omega⟩
 | succ d ih =>
   intro i h;obtain⟨r1,h1,g1⟩:=ju (l.getD i zV).1.1 (l.getD i zV).1.2.1 (l.getD i zV).1.2.2 m;obtain⟨r2,h2,g2⟩:=ih (i+1) (by omega);have ew:wrap64 ((i:Int)+1)=((i+1:Nat):Int):=(by rw[AE (by omega) (by omega)];omega);refine⟨r1 || r2,Ev.step (λk=>BD.l0.eq_2 ..) (Ev.AK (by omega) (Ev.AK (by omega) (Ev.AK (by omega) ?_))),λhf=> ?_⟩
   · rw[ADo]
     refine Ev.AX h1 ?_;cases r1
     · refine Ev.AP (by decide) ?_
       rw[ew];exact h2
     · exact Ev.AK rfl (Ev.same rfl)
   · rw[Bool.or_eq_false_iff] at hf
     rw[AAj (show i<l.length by omega)];exact⟨g1.1 hf.1,g2 hf.2⟩
theorem sH {l:List V5} {t:List Bool} (hl:l.length<=1000000) : ∃r,Ev (λk=>CP.f k l t) r/\(r=false-> ∀v∈l,(v.1.2.1.length:Int)<=40/\(v.1.2.2.length:Int)<=40):=by
 obtain⟨r,h,g⟩:=AFU hl 40 l.length 0 (by omega);refine⟨r,Ev.bind h (Ev.same rfl),λhf v hv=> ?_⟩;obtain⟨j,hj,rfl⟩:=List.getElem_of_mem hv;have:=g hf j (by omega) hj;rw[Rv hj] at this;exact this
theorem AC0 {v:V5} (h1:v.1.2.1.length<=1000000) (h2:v.1.2.2.length<=1000000):Ev (λk=>Ja.f k v.1.1 v.1.2.1 v.1.2.2 v.2.1 v.2.2 v.1.1 v.1.2.1 v.1.2.2 v.2.1 v.2.2) true:=by
 refine Ev.AK rfl (Ev.AK rfl (Ev.bind (VI h1 h2) (Ev.same ?_)));rw[decide_eq_true rfl]
theorem AGj {l:List V5} (hl:l.length<=1000000) (hs : ∀v∈l,v.1.2.1.length<=1000000/\v.1.2.2.length<=1000000) (d:Nat) : ∀i:Nat,i+d=l.length->Ev (λk=>EC.l0 k l l (l.length:Int) i) true:=by
 induction d with
 | zero =>
   intro i h;exact Ev.step (λk=>EC.l0.eq_2 ..) (Ev.AP (by omega) (Ev.same rfl))
 | succ d ih =>
   intro i h;have ew:wrap64 ((i:Int)+1)=((i+1:Nat):Int):=(by rw[AE (by omega) (by omega)];omega);have hm:l.getD i zV∈l:=(by rw[Rv (by omega)];exact AO3 _);refine Ev.step (λk=>EC.l0.eq_2 ..) (Ev.AK (by omega) (Ev.AK (by omega) (Ev.AK (by omega) (Ev.AK (by omega) ?_))));rw[ADo];refine Ev.bind (AC0 (hs _ hm).1 (hs _ hm).2) (Ev.AK rfl ?_);rw[ew];exact ih (i+1) (by omega)
theorem AGk {l:List V5} (hl:l.length<=1000000) (hs : ∀v∈l,v.1.2.1.length<=1000000/\v.1.2.2.length<=1000000):Ev (λk=>EC.f k l l) true:=Ev.AK rfl (AGj hl hs l.length 0 (by omega))
theorem AC1 {l:List Bool} (hl:l.length<=1000000) (d:Nat) : ∀i:Nat,i+d=l.length->Ev (λk=>Aq.l0 k l l (l.length:Int) i) true:=by
 induction d with
 | zero =>
   intro i h;exact Ev.step (λk=>Aq.l0.eq_2 ..) (Ev.AP (by omega) (Ev.same rfl))
 | succ d ih =>
   intro i h;have ew:wrap64 ((i:Int)+1)=((i+1:Nat):Int):=(by rw[AE (by omega) (by omega)];omega);refine Ev.step (λk=>Aq.l0.eq_2 ..) (Ev.AK (by omega) (Ev.AK (by omega) (Ev.AK (by omega) (Ev.AK (by omega) (Ev.AP (by simp) ?_)))));rw[ew];exact ih (i+1) (by omega)
theorem AC2 {l:List Bool} (hl:l.length<=1000000):Ev (λk=>Aq.f k l l) true:=Ev.AK rfl (AC1 hl l.length 0 (by omega))
theorem xG {c m:Int} {v:V5} (h:dH c m v) (h1:(v.1.2.1.length:Int)<=40) (h2:(v.1.2.2.length:Int)<=40):dH 2560 m v:=by
 rcases h with⟨rfl,q,hq,rfl⟩ | h
 · refine .inl ⟨rfl,q, ?_,rfl⟩
   rw[Qa] at h1 h2;dsimp only at h1 h2;have a:=Fg (PS (ab q.num));have b:=Fg (PS (q.den:Int));rw[Aa (by unfold ab;split<;>omega)] at a;rw[Aa (by omega)] at b;exact⟨hq.1,by omega,by omega⟩
 · exact .inr h
abbrev A6:=Int × Int × Int × Int × Int × Int
def zA:A6:=(0,0,0,0,0,0)
theorem AAn (l:List A6) (i:Nat):BI l (i:Int)=l.getD i zA:=by
 show l.getD ((i:Int)).toNat zA=_;rw[ANI]
def AOk (a:A6):Prop:=dI a.2.2.2.1/\dI a.2.2.2.2.1/\U a.2.2.2.2.2
def Szs (l:List V5):Prop:= ∀v∈l,v.1.2.1.length<=1000000/\v.1.2.2.length<=1000000
theorem AAo {m e:Int} {v:V5} (h:Res m v e):v.1.2.1.length<=1000000/\v.1.2.2.length<=1000000:=by
 rcases h with⟨_,⟨_,q,hq,rfl⟩ | ⟨_,b,_,rfl⟩⟩ | ⟨_,rfl⟩
 · have:=AAk hq (by omega)
   exact⟨AN6 this.1 (by omega),AN6 this.2 (by omega)⟩
 · exact⟨by simp,by simp⟩
 · exact⟨by simp[zV],by simp[zV]⟩
theorem ug {m:Int} (h0:0<=m) (h1:m<=2):Ev (λk=>GH.f k m []) (false,m,0,[],0,0,false,0):=Ev.AP (by omega) (Ev.AP (by omega) (Ev.AK (by simp) (Ev.same rfl)))
theorem xH:Ev (λk=>DC.f k 0 0 [] [] [] 0 0 false 0 1 2) (wv (en ((1:Int)/(2:Int):Rat),0,0) (BS 0 [] 0 false 0)):=by
 obtain⟨a1,_⟩:=sF (m:=0) (met:= []) (n:=0) (tie:=false) (p:=1) (q:=2) (by unfold dI;decide) (by unfold dI;decide);exact Ev.bind (DG _ _ _ _ _ _ _ _ _) (Ev.AP jq (Ev.bind (a1 (by decide)) (Ev.AK rfl (Ev.AK rfl (Ev.same rfl)))))
theorem AAp:((1:Int)/(2:Int):Rat)+((1:Int)/(2:Int):Rat)=((1:Int):Rat):=by
 have:(((1:Int):Rat)/((2:Int):Rat))+(((1:Int):Rat)/((2:Int):Rat))=((1:Int):Rat):=by decide +kernel
 exact this
theorem xI:Ev (λk=>De.f k 0 0 [] [] [] 0 0 false 0 (en ((1:Int)/(2:Int):Rat)).1 (en ((1:Int)/(2:Int):Rat)).2.1 (en ((1:Int)/(2:Int):Rat)).2.2 0 0 (en ((1:Int)/(2:Int):Rat)).1 (en ((1:Int)/(2:Int):Rat)).2.1 (en ((1:Int)/(2:Int):Rat)).2.2 0 0) (wv (en ((1:Int):Rat),0,0) (BS 0 [] 1 false 0)):=by
 have hB:Bd 128 ((1:Int)/(2:Int):Rat):=sG (by unfold dI;decide) (by unfold dI;decide) (by decide);have w:wrap64 ((0:Int)+1)=1:=by rw[AE (by omega) (by omega)];rfl
 have A:=gB hB hB (by omega) (by omega);rw[AAp] at A;refine Ev.bind (Ev.bind (DG _ _ _ _ _ _ _ _ _) (Ev.AP jq (Ev.AK rfl (Ev.bind (Ev.AP (show¬(4:Int)=3 by decide) (Ev.AK rfl (Ev.bind A (Ev.same rfl)))) (Ev.step (λk=>AL.uz.eq_2 ..) (Ev.AK rfl (Ev.same rfl))))))) (Ev.same (by dsimp only[BS,wv];rw[w]))
def yF:I6:=(1,0,0,false,[],[])
def in1:I6:=(1,1,0,false,[],[])
def yG:I6:=(6,0,1,false,[],[])
theorem wz0:wrap64 0=0:=by rw[AE (by omega) (by omega)]
theorem wz1:wrap64 1=1:=by rw[AE (by omega) (by omega)]
theorem wz2:wrap64 2=2:=by rw[AE (by omega) (by omega)]
theorem wz3:wrap64 3=3:=by rw[AE (by omega) (by omega)]
theorem AJf:Ev (λk=>CC.f k 2 0 [] [] [] 0 0 false 0 0 0 0) (false,[],[],0,0,2,1,[yF],[],[],0,0,false,0):=by
 refine⟨5,λk hk=> ?_⟩;simp[CC.f,BL.f,Bj.f,yF,wz0,wz1]
theorem AJg:Ev (λk=>CC.f k 2 1 [yF] [] [] 0 0 false 0 0 0 0) (false,[],[],0,1,2,2,[yF,in1],[],[],0,0,false,0):=by
 refine⟨5,λk hk=> ?_⟩;simp[CC.f,BL.f,Bj.f,yF,in1,wz1,wz2]
theorem AGl:Ev (λk=>DD.f k 2 2 [yF,in1] [] [] 0 0 false 0 false [] [] 0 0 false [] [] 0 1) (false,[],[],0,2,2,2,[yF,in1,yG],[],[],0,1,false,0):=by
 refine⟨9,λk hk=> ?_⟩;obtain⟨j,rfl⟩ : ∃j,k=j+9:=⟨k-9,by omega⟩;simp[DD.f,AL.f,BL.f,Bs.f,AL.j7,AL.j10,AL.uz,Bj.f,yF,in1,yG,wz1,wz2]
theorem AGm:Ev (λk=>BE.f k 2 2 [yF,in1,yG] [] [] 0 1 false 0) ([yF,in1,yG],2,2,[yF,in1,yG],[],[],0,1,false,0):=by
 refine⟨9,λk hk=> ?_⟩;obtain⟨j,rfl⟩ : ∃j,k=j+9:=⟨k-9,by omega⟩;simp[BE.f,BE.l0,Gp.f,yF,in1,yG,wz1,wz2,wz3]
theorem U4:Ev (λk=>AM.f k) true:=by
 have O:=sI (n:=1) (by omega) (by omega);rw[AAl] at O;have l:=AAk (bE (p:=1) (by omega) (by omega)) (by omega);have S:=VI (s:=(en ((1:Int):Rat)).1) (s':=(en ((1:Int):Rat)).1) (a:=(en ((1:Int):Rat)).2.1) (b:=(en ((1:Int):Rat)).2.2) (a':=(en ((1:Int):Rat)).2.1) (b':=(en ((1:Int):Rat)).2.2) (by omega) (by omega);rw[decide_eq_true rfl] at S;have ff : ¬(false=true):=by decide
 refine Ev.bind (ug (m:=0) (by omega) (by omega)) (Ev.AP ff (Ev.bind (ug (m:=2) (by omega) (by omega)) (Ev.AP ff ?_)));refine Ev.bind xH (Ev.bind xI (Ev.bind AJf (Ev.bind AJg (Ev.bind AGl (Ev.bind AGm (Ev.bind O (Ev.bind S (Ev.AK rfl ?_))))))));refine Ev.bind (a:=(1,0,0,[],[],[],0,1,false,0)) ⟨0,λ_ _=>rfl⟩ (Ev.AK rfl (Ev.AK rfl (Ev.AK (by decide) (Ev.AK rfl (Ev.AK rfl (Ev.AK (by decide) (Ev.same rfl)))))))
section
abbrev Yg:=Int × Int × List I6 × List Bool × List Bool × Int × Int × Bool × Int × List V5 × List Bool
def oS (s:BT) (l:List V5) (t:List Bool):Yg:=(s.1,s.2.1,s.2.2.1,s.2.2.2.1,s.2.2.2.2.1,s.2.2.2.2.2.1,s.2.2.2.2.2.2.1,s.2.2.2.2.2.2.2.1,s.2.2.2.2.2.2.2.2,l,t)
def stF (K A B P Q W:Int) (s:BT) (l:List V5) (t:List Bool) (k:Nat):Option Yg:=AA.f k s.1 s.2.1 s.2.2.1 s.2.2.2.1 s.2.2.2.2.1 s.2.2.2.2.2.1 s.2.2.2.2.2.2.1 s.2.2.2.2.2.2.2.1 s.2.2.2.2.2.2.2.2 l t K A B P Q W
def AFV (two:Bool) (K A B P Q W:Int) (s:BT) (l:List V5) (t:List Bool) (k:Nat):Option Yg:=AA.j2 k two K A B P Q W s.1 s.2.1 s.2.2.1 s.2.2.2.1 s.2.2.2.2.1 s.2.2.2.2.2.1 s.2.2.2.2.2.2.1 s.2.2.2.2.2.2.2.1 s.2.2.2.2.2.2.2.2 l t
def xJ (K A B P Q W:Int) (s:BT) (l:List V5) (t:List Bool) (k:Nat):Option Yg:=AA.j3 k K A B P Q W s.1 s.2.1 s.2.2.1 s.2.2.2.1 s.2.2.2.2.1 s.2.2.2.2.2.1 s.2.2.2.2.2.2.1 s.2.2.2.2.2.2.2.1 s.2.2.2.2.2.2.2.2 l t
def AGn (K A B P Q W:Int) (s:BT) (l:List V5) (t:List Bool) (k:Nat):Option Yg:=AA.j5 k K A B P Q W s.1 s.2.1 s.2.2.1 s.2.2.2.1 s.2.2.2.2.1 s.2.2.2.2.2.1 s.2.2.2.2.2.2.1 s.2.2.2.2.2.2.2.1 s.2.2.2.2.2.2.2.2 l t
def AGo (K A B P Q W:Int) (s:BT) (l:List V5) (t:List Bool) (k:Nat):Option Yg:=AA.j7 k K A B P Q W s.1 s.2.1 s.2.2.1 s.2.2.2.1 s.2.2.2.2.1 s.2.2.2.2.2.1 s.2.2.2.2.2.2.1 s.2.2.2.2.2.2.2.1 s.2.2.2.2.2.2.2.2 l t
def AJh (K A B P Q W:Int) (s:BT) (l:List V5) (t:List Bool) (k:Nat):Option Yg:=AA.j9 k K A B P Q W s.1 s.2.1 s.2.2.1 s.2.2.2.1 s.2.2.2.2.1 s.2.2.2.2.2.1 s.2.2.2.2.2.2.1 s.2.2.2.2.2.2.2.1 s.2.2.2.2.2.2.2.2 l t
def bF (s:BT) (P Q W:Int):Nat->Option (Bool × List Int × List Int × Int × Int × BT):=λk=>CC.f k s.1 s.2.1 s.2.2.1 s.2.2.2.1 s.2.2.2.2.1 s.2.2.2.2.2.1 s.2.2.2.2.2.2.1 s.2.2.2.2.2.2.2.1 s.2.2.2.2.2.2.2.2 P Q W
def dz (s:BT) (P Q:Int):Nat->Option (Bool × List Int × List Int × Int × Int × BT):=λk=>DC.f k s.1 s.2.1 s.2.2.1 s.2.2.2.1 s.2.2.2.2.1 s.2.2.2.2.2.1 s.2.2.2.2.2.2.1 s.2.2.2.2.2.2.2.1 s.2.2.2.2.2.2.2.2 P Q
def bG (s:BT) (op:Int) (x y:V5):Nat->Option (Bool × List Int × List Int × Int × Int × BT):=λk=>DI.f k s.1 s.2.1 s.2.2.1 s.2.2.2.1 s.2.2.2.2.1 s.2.2.2.2.2.1 s.2.2.2.2.2.2.1 s.2.2.2.2.2.2.2.1 s.2.2.2.2.2.2.2.2 op x.1.1 x.1.2.1 x.1.2.2 x.2.1 x.2.2 y.1.1 y.1.2.1 y.1.2.2 y.2.1 y.2.2
def doF (s:BT) (op:Int) (x y:V5) (two:Bool):Nat->Option (Bool × List Int × List Int × Int × Int × BT):=λk=>AL.f k s.1 s.2.1 s.2.2.1 s.2.2.2.1 s.2.2.2.2.1 s.2.2.2.2.2.1 s.2.2.2.2.2.2.1 s.2.2.2.2.2.2.2.1 s.2.2.2.2.2.2.2.2 op x.1.1 x.1.2.1 x.1.2.2 x.2.1 x.2.2 y.1.1 y.1.2.1 y.1.2.2 y.2.1 y.2.2 two
def bH (s:BT) (x y:V5):Nat->Option (Bool × BT):=λk=>AZ.f k s.1 s.2.1 s.2.2.1 s.2.2.2.1 s.2.2.2.2.1 s.2.2.2.2.2.1 s.2.2.2.2.2.2.1 s.2.2.2.2.2.2.2.1 s.2.2.2.2.2.2.2.2 x.1.1 x.1.2.1 x.1.2.2 x.2.1 x.2.2 y.1.1 y.1.2.1 y.1.2.2 y.2.1 y.2.2
def Can (K A B n:Int):Prop:=(K>1->1<=A/\A<=n)/\((4<=K/\K<=7)\/K=11->1<=B/\B<=n)
section
variable {K A B P Q W:Int} {s s':BT} {l:List V5} {t:List Bool} {v:V5} {b:Bool}
theorem g9 (h:K≠11):Ev (AJh K A B P Q W s l t) (oS s l t):=Ev.step (λk=>AA.j9.eq_2 ..) (Ev.AP h (Ev.same rfl))
theorem g7 (h:K≠11) (h2 : ¬(3<=K/\K<=10)):Ev (AGo K A B P Q W s l t) (oS s l t):=by
 refine Ev.step (λk=>AA.j7.eq_2 ..) ?_;by_cases h3:K>=3
 · exact Ev.AK h3 (Ev.AP (by omega) (g9 h))
 · exact Ev.AP h3 (g9 h)
theorem g5 (h:K≠1) {r:Yg} (E:Ev (AGo K A B P Q W s l t) r):Ev (AGn K A B P Q W s l t) r:=Ev.step (λk=>AA.j5.eq_2 ..) (Ev.AP h E)
theorem g3 (h:K≠0) {r:Yg} (E:Ev (AGn K A B P Q W s l t) r):Ev (xJ K A B P Q W s l t) r:=Ev.step (λk=>AA.j3.eq_2 ..) (Ev.AP h E)
theorem g2 {two:Bool} (ht:two=true↔(4<=K/\K<=7)\/K=11) (h:Can K A B l.length) {r:Yg} (E:Ev (xJ K A B P Q W s l t) r):Ev (AFV two K A B P Q W s l t) r:=by
 refine Ev.step (λk=>AA.j2.eq_2 ..) ?_;obtain⟨hA,hB⟩:=h;have yG:Ev (λk=>if two=true then(if B<1 then some (oS s l t) else if B>(l.length:Int) then some (oS s l t) else xJ K A B P Q W s l t k) else xJ K A B P Q W s l t k) r:=by
  by_cases h2:two=true
  · have:=hB (ht.1 h2)
    exact Ev.AK h2 (Ev.AP (by omega) (Ev.AP (by omega) E))
  · exact Ev.AP h2 E
 by_cases hK:K>1
 · have:=hA hK
   exact Ev.AK hK (Ev.AP (by omega) (Ev.AP (by omega) yG))
 · exact Ev.AP hK yG
theorem g2n {two:Bool} (ht:two=true↔(4<=K/\K<=7)\/K=11) (h : ¬Can K A B l.length):Ev (AFV two K A B P Q W s l t) (oS s l t):=by
 refine Ev.step (λk=>AA.j2.eq_2 ..) ?_;have yG:(K>1->1<=A/\A<=l.length)->Ev (λk=>if two=true then(if B<1 then some (oS s l t) else if B>(l.length:Int) then some (oS s l t) else xJ K A B P Q W s l t k) else xJ K A B P Q W s l t k) (oS s l t):=by
  intro hA;by_cases h2:two=true
  · refine Ev.AK h2 ?_
    by_cases h3:B<1
    · exact Ev.AK h3 (Ev.same rfl)
    by_cases h4:B>(l.length:Int)
    · exact Ev.AP h3 (Ev.AK h4 (Ev.same rfl))
    · exact absurd ⟨hA,λ_=>by omega⟩ h
  · exact absurd ⟨hA,λz=>absurd (ht.2 z) h2⟩ h
 by_cases hK:K>1
 · refine Ev.AK hK ?_
   by_cases h3:A<1
   · exact Ev.AK h3 (Ev.same rfl)
   by_cases h4:A>(l.length:Int)
   · exact Ev.AP h3 (Ev.AK h4 (Ev.same rfl))
   · exact Ev.AP h3 (Ev.AP h4 (yG λ_=>by omega))
 · exact Ev.AP hK (yG λz=>absurd z hK)
theorem gf {r:Yg} (E : ∀two:Bool,(two=true↔(4<=K/\K<=7)\/K=11)->Ev (AFV two K A B P Q W s l t) r):Ev (stF K A B P Q W s l t) r:=by
 by_cases h1:K>=4
 · by_cases h2:K<=7
   · exact Ev.AK h1 (Ev.AK h2 (E true ⟨λ_=> .inl ⟨h1,h2⟩,λ_=>rfl⟩))
   · exact Ev.AK h1 (Ev.AP h2 (E (K==11) ⟨λh=> .inr (beq_iff_eq.1 h),λh=>beq_iff_eq.2 (by omega)⟩))
 · exact Ev.AP h1 (E (K==11) ⟨λh=> .inr (beq_iff_eq.1 h),λh=>beq_iff_eq.2 (by omega)⟩)
theorem AAq (h : ¬Can K A B l.length\/K<0\/K=2\/11<K):Ev (stF K A B P Q W s l t) (oS s l t):=gf λtwo ht=>by
 by_cases h0:Can K A B l.length
 · have h1:K<0\/K=2\/11<K:=h.resolve_left λz=>z h0
   exact g2 ht h0 (g3 (by omega) (g5 (by omega) (g7 (by omega) (by omega))))
 · exact g2n ht h0
theorem Qc (hK:K=0) (hl:l.length<=1000000) (E:Ev (bF s P Q W) (wv v s')):Ev (stF K A B P Q W s l t) (oS s' (l++ [v]) t):=gf λtwo ht =>
 g2 ht ⟨λh=>by omega,λh=>by omega⟩ (Ev.step (λk=>AA.j3.eq_2 ..) (Ev.AK hK (Ev.bind E (Ev.AK (by omega) (g5 (by omega) (g7 (by omega) (by omega)))))))
theorem Qd (hK:K=1) (hl:l.length<=1000000) (E:Ev (dz s P Q) (wv v s')):Ev (stF K A B P Q W s l t) (oS s' (l++ [v]) t):=gf λtwo ht =>
 g2 ht ⟨λh=>by omega,λh=>by omega⟩ (g3 (by omega) (Ev.step (λk=>AA.j5.eq_2 ..) (Ev.AK hK (Ev.bind E (Ev.AK (by omega) (g7 (by omega) (by omega)))))))
theorem VJ (hK:3<=K/\K<=10) (hc:Can K A B l.length) (hl:l.length<=1000000) (E:Ev (bG s K (bck l A) (bck l B)) (wv v s')):Ev (stF K A B P Q W s l t) (oS s' (l++ [v]) t):=gf λtwo ht =>
 g2 ht hc (g3 (by omega) (g5 (by omega) (Ev.step (λk=>AA.j7.eq_2 ..) (Ev.AK hK.1 (Ev.AK hK.2 (Ev.bind (jt (a:=A) hl) (Ev.bind (jt (a:=B) hl) (Ev.bind E (Ev.AK (by dsimp only[wv];omega) (g9 (by omega)))))))))))
theorem Wn (hK:K=11) (hc:Can K A B l.length) (hl:l.length<=1000000) (ht2:t.length<=1000000) (E:Ev (bH s (bck l A) (bck l B)) (b,s')):Ev (stF K A B P Q W s l t) (oS s' l (t++ [b])):=gf λtwo ht =>
 g2 ht hc (g3 (by omega) (g5 (by omega) (Ev.step (λk=>AA.j7.eq_2 ..) (Ev.AK (by omega) (Ev.AP (by omega) (Ev.step (λk=>AA.j9.eq_2 ..) (Ev.AK hK (Ev.bind (jt (a:=A) hl) (Ev.bind (jt (a:=B) hl) (Ev.bind E (Ev.AK (by dsimp only[wv];omega) (Ev.same rfl))))))))))))
end
theorem AAr (s:BT) (h:s.2.2.2.2.2.2.2.2=0) (x:Int):Ev (λk=>A7.f k s.1 s.2.1 s.2.2.1 s.2.2.2.1 s.2.2.2.2.1 s.2.2.2.2.2.1 s.2.2.2.2.2.2.1 s.2.2.2.2.2.2.2.1 s.2.2.2.2.2.2.2.2 x) (s.1,s.2.1,s.2.2.1,s.2.2.2.1,s.2.2.2.2.1,s.2.2.2.2.2.1,s.2.2.2.2.2.2.1,s.2.2.2.2.2.2.2.1,x):=by
 refine⟨0,λ_ _=> ?_⟩;obtain⟨a,b,c,d,e,f,g,i,j⟩:=s;dsimp only at h;subst h;rfl
theorem ff : ¬(false=true):=by decide
theorem LO {m i:Int} {p':List I6} {ak met:List Bool} {ad n:Int} {tie:Bool} {p q:Int} (hp:dI p) (hq:dI q) :
 (q≠0->Ev (λk=>BX.f k m i p' ak met ad n tie 0 p q) ((en ((p:Rat)/(q:Rat))).1,(en ((p:Rat)/(q:Rat))).2.1,(en ((p:Rat)/(q:Rat))).2.2,m,i,p',ak,met,ad,n,tie,0)) /\
 (q=0->Ev (λk=>BX.f k m i p' ak met ad n tie 0 p q) (false,[],[],m,i,p',ak,met,ad,n,tie,4)):=by
 have e1:=VH hq.1 hq.2;have e2:=VH hp.1 hp.2;rw[AAl] at e1 e2;have e3:=Wk (bE hp.1 hp.2) (bE hq.1 hq.2) (by omega) (by omega);refine⟨λh=> ?_,λh=> ?_⟩
 · have hz : ¬(q:Rat)=0:=λz=>h (by exact_mod_cast z)
   rw[qo,if_neg hz] at e3;exact Ev.bind e1 (Ev.bind e2 (Ev.bind e3 (Ev.bind (AAr (m,i,p',ak,met,ad,n,tie,0) rfl _) (Ev.same rfl))))
 · subst h
   rw[qo,if_pos (by rfl)] at e3;exact Ev.bind e1 (Ev.bind e2 (Ev.bind e3 (Ev.bind (AAr (m,i,p',ak,met,ad,n,tie,0) rfl _) (Ev.same rfl))))
def oq (op:Int) (x y:Rat):Rat:=if op=3 then -x else if op=4 then x+y else if op=5 then x-y else if op=6 then x*y else x/y
def opv (sq:Int->Int) (m op:Int) (x y:V5):V5:=if m=0 then(en (oq op (de x.1) (de y.1)),0,0) else(zR,fdo sq op x.2.1 y.2.1,0)
def AFW (m:Int) (q:R3):V5:=if m=0 then(q,0,0) else(zR,fR q.1 (nv q.2.1) (nv q.2.2),0)
def AAs (m P Q W:Int):V5:=if m=0 then(en ((P:Rat)/(Q:Rat)),0,0) else(zR,cl W,0)
section
variable {m:Int} {met:List Bool} {n:Int} {tie:Bool}
theorem AGp (hm:m=0\/m=1) {p q b:Int} (hp:dI p) (hq:dI q) (hb:U b) (h:q≠0):Ev (bF (BS m met n tie 0) p q b) (wv (AAs m p q b) (BS m met n tie 0))/\dH 2560 m (AAs m p q b):=by
 unfold AAs bF BS;dsimp only;rcases hm with rfl | rfl
 · rw[if_pos rfl]
   exact⟨Ev.bind (DG _ _ _ _ _ _ _ _ _) (Ev.AP jq (Ev.AK rfl (Ev.bind ((LO hp hq).1 h) (Ev.same rfl)))), .inl ⟨rfl,_,(sG hp hq h).mono (by omega),rfl⟩⟩
 · rw[if_neg jr]
   exact⟨Ev.bind (DG _ _ _ _ _ _ _ _ _) (Ev.AP jq (Ev.AP jr (Ev.AK rfl (Ev.AX (Mr hb) (Ev.same rfl))))), .inr ⟨rfl,_,AGg hb,rfl⟩⟩
theorem oE {x:Rat} (h:Bd 128 x):Ev (λk=>Bx.f k (en x).1 (en x).2.1 (en x).2.2) (fR (en x).1 (nv (en x).2.1) (nv (en x).2.2)):=by
 obtain⟨l1,l2,w1,w2⟩:=AFX (KV h (by omega));have hp:=Qa x;have hd:0<nv (en x).2.2:=by
  rw[hp];show 0<nv (dg x.den);rw[Aa (by omega)];exact den_pos x
 have l30:=AAm h;exact Wi _ w1 w2 l30.1 l30.2 hd
theorem AGq (hm:m=0\/m=1) {p q:Int} (hp:dI p) (hq:dI q) :
 (q≠0->Ev (dz (BS m met n tie 0) p q) (wv (AFW m (en ((p:Rat)/(q:Rat)))) (BS m met n tie 0))/\dH 2560 m (AFW m (en ((p:Rat)/(q:Rat)))))/\(q=0->Ev (dz (BS m met n tie 0) p q) (wv zV (BS m met n tie 4))):=by
 unfold dz BS;dsimp only;obtain⟨a1,a2⟩:=LO (m:=m) (i:=0) (p':= []) (ak:= []) (ad:=0) (met:=met) (n:=n) (tie:=tie) hp hq;refine⟨λh=> ?_,λh=>Ev.bind (DG _ _ _ _ _ _ _ _ _) (Ev.AP jq (Ev.bind (a2 h) (Ev.AP (show¬(4:Int)=0 by decide) (Ev.same rfl))))⟩;have hB:=sG hp hq h;unfold AFW;rcases hm with rfl | rfl
 · rw[if_pos rfl]
   exact⟨Ev.bind (DG _ _ _ _ _ _ _ _ _) (Ev.AP jq (Ev.bind (a1 h) (Ev.AK rfl (Ev.AK rfl (Ev.same rfl))))), .inl ⟨rfl,_,hB.mono (by omega),rfl⟩⟩
 · rw[if_neg jr]
   exact⟨Ev.bind (DG _ _ _ _ _ _ _ _ _) (Ev.AP jq (Ev.bind (a1 h) (Ev.AK rfl (Ev.AP jr (Ev.AK rfl (Ev.bind (oE hB) (Ev.same rfl))))))), .inr ⟨rfl,_,AJe _ _ _,rfl⟩⟩
theorem AC3 {op:Int} (h0:3<=op) (h1:op<=10) {x q:Rat} (hx:Bd 2560 x) {y:R3} (hy:4<=op/\op<=7->Bd 2560 q/\y=en q) :
 (op<=7/\(op=7->q≠0)/\Ev (λk=>DS.f k 0 0 [] [] met 0 n tie 0 op (en x).1 (en x).2.1 (en x).2.2 y.1 y.2.1 y.2.2) ((en (oq op x q)).1,(en (oq op x q)).2.1,(en (oq op x q)).2.2,BS 0 met n tie 0)/\Bd 6000 (oq op x q)) \/
 ∃e,e≠0/\Ev (λk=>DS.f k 0 0 [] [] met 0 n tie 0 op (en x).1 (en x).2.1 (en x).2.2 y.1 y.2.1 y.2.2) (false,[],[],BS 0 met n tie e):=by
 unfold oq;by_cases h3:op=3
 · rw[if_pos h3]
   exact .inl ⟨by omega,λz=>by omega,Ev.AK h3 (Ev.bind (xB hx (by omega)) (Ev.same rfl)),(AAg hx).mono (by omega)⟩
 rw[if_neg h3];by_cases h7:7<op
 · exact .inr ⟨6,by decide,Ev.AP h3 (Ev.AP (by omega) (Ev.AP (by omega) (Ev.AP (by omega) (Ev.AP (by omega) (Ev.bind (Wm _ _ _ _ _ _ _ _ _) (Ev.same rfl))))))⟩
 obtain⟨hq,rfl⟩:=hy ⟨by omega,by omega⟩;by_cases h4:op=4
 · rw[if_pos h4]
   exact .inl ⟨by omega,λz=>by omega,Ev.AP h3 (Ev.AK h4 (Ev.bind (gB hx hq (by omega) (by omega)) (Ev.same rfl))),(AAh hx hq).mono (by omega)⟩
 rw[if_neg h4];by_cases h5:op=5
 · rw[if_pos h5]
   exact .inl ⟨by omega,λz=>by omega,Ev.AP h3 (Ev.AP h4 (Ev.AK h5 (Ev.bind (xC hx hq (by omega) (by omega)) (Ev.same rfl)))),(AFM hx hq).mono (by omega)⟩
 rw[if_neg h5];by_cases h6:op=6
 · rw[if_pos h6]
   exact .inl ⟨by omega,λz=>by omega,Ev.AP h3 (Ev.AP h4 (Ev.AP h5 (Ev.AK h6 (Ev.bind (xD hx hq (by omega) (by omega)) (Ev.same rfl))))),(AFN hx hq).mono (by omega)⟩
 rw[if_neg h6];have h8:op=7:=by omega
 have D:=Wk hx hq (by omega) (by omega);by_cases hz:q=0
 · rw[qo,if_pos hz] at D
   exact .inr ⟨4,by decide,Ev.AP h3 (Ev.AP h4 (Ev.AP h5 (Ev.AP h6 (Ev.AK h8 (Ev.bind D (Ev.bind (Wm _ _ _ _ _ _ _ _ _) (Ev.same rfl)))))))⟩
 · rw[qo,if_neg hz] at D
   exact .inl ⟨by omega,λ_=>hz,Ev.AP h3 (Ev.AP h4 (Ev.AP h5 (Ev.AP h6 (Ev.AK h8 (Ev.bind D (Ev.bind (Wm _ _ _ _ _ _ _ _ _) (Ev.same rfl))))))),(AAi hx hq hz).mono (by omega)⟩
end
end
section
theorem Rw {s s':BT} {op:Int} (h0:3<=op) (h1:op<=10) {x y v:V5} (E1:4<=op/\op<=7->Ev (doF s op x y true) (wv v s')) (E2 : ¬(4<=op/\op<=7)->Ev (doF s op x zV false) (wv v s')):Ev (bG s op x y) (wv v s'):=by
 unfold bG;by_cases hb:4<=op/\op<=7
 · have E:=E1 hb
   rcases(show op=4\/op=5\/op=6\/op=7 by omega) with rfl | rfl | rfl | rfl
   · exact Ev.AP (by decide) (Ev.AK rfl (Ev.bind (Ev.bind E (Ev.same rfl)) (Ev.same rfl)))
   · exact Ev.AP (by decide) (Ev.AP (by decide) (Ev.AK rfl (Ev.bind (Ev.bind E (Ev.same rfl)) (Ev.same rfl))))
   · exact Ev.AP (by decide) (Ev.AP (by decide) (Ev.AP (by decide) (Ev.AK rfl (Ev.bind (Ev.bind E (Ev.same rfl)) (Ev.same rfl)))))
   · exact Ev.AP (by decide) (Ev.AP (by decide) (Ev.AP (by decide) (Ev.AP (by decide) (Ev.AK rfl (Ev.bind (Ev.bind E (Ev.same rfl)) (Ev.same rfl))))))
 · have E:=E2 hb
   rcases(show op=3\/op=8\/op=9\/op=10 by omega) with rfl | rfl | rfl | rfl
   · exact Ev.AK rfl (Ev.bind (Ev.bind E (Ev.same rfl)) (Ev.same rfl))
   · exact Ev.AP (by decide) (Ev.AP (by decide) (Ev.AP (by decide) (Ev.AP (by decide) (Ev.AP (by decide) (Ev.AK rfl (Ev.bind (Ev.bind E (Ev.same rfl)) (Ev.same rfl)))))))
   · exact Ev.AP (by decide) (Ev.AP (by decide) (Ev.AP (by decide) (Ev.AP (by decide) (Ev.AP (by decide) (Ev.AP (by decide) (Ev.AK rfl (Ev.bind (Ev.bind E (Ev.same rfl)) (Ev.same rfl))))))))
   · exact Ev.AP (by decide) (Ev.AP (by decide) (Ev.AP (by decide) (Ev.AP (by decide) (Ev.AP (by decide) (Ev.AP (by decide) (Ev.AP (by decide) (Ev.bind (Ev.bind E (Ev.same rfl)) (Ev.same rfl))))))))
section
variable {m:Int} {met:List Bool} {n:Int} {tie:Bool}
theorem AC4 {c:Int} {x:V5} (h:dH c 0 x) : ∃q,Bd c q/\x=(en q,0,0):=by
 rcases h with⟨_,h⟩ | ⟨h,_⟩
 · exact h
 · exact absurd h (by decide)
theorem AFY {c:Int} {x:V5} (h:dH c 1 x) : ∃b,U b/\x=(zR,b,0):=by
 rcases h with⟨h,_⟩ | ⟨_,h⟩
 · exact absurd h (by decide)
 · exact h
theorem AGr {sq:Int->Int} (nX:jo sq) (hm:m=0\/m=1) {op:Int} (h0:3<=op) (h1:op<=10) {x y y':V5} {two:Bool} (hx:dH 2560 m x) (hy:4<=op/\op<=7->y'=y/\dH 2560 m y) (hU:U y'.2.1) (hn:0<=n/\n<=1000000) :
 (Ev (doF (BS m met n tie 0) op x y' two) (wv (opv sq m op x y) (BS m met (n+1) tie 0))/\dH 6000 m (opv sq m op x y)/\(m=0->op<=7/\(op=7->de y.1≠0)))\/ ∃e,e≠0/\Ev (doF (BS m met n tie 0) op x y' two) (wv zV (BS m met n tie e)):=by
 have w1:wrap64 (n+1)=n+1:=by rw[AE (by omega) (by omega)]
 have w2:wrap64 (n+1-1)=n:=by rw[AE (by omega) (by omega)];omega
 unfold opv doF;rcases hm with rfl | rfl
 · obtain⟨q,bq,rfl⟩:=AC4 hx
   rw[if_pos rfl];show(Ev _ (wv (en (oq op (de (en q)) (de y.1)),0,0) _)/\_)\/_;rw[ADn];have X:=AC3 (q:=de y.1) (y:=y'.1) (met:=met) (n:=n+1) (tie:=tie) h0 h1 bq (λh=>by
    obtain⟨rfl,h2⟩:=hy h;obtain⟨r,br,rfl⟩:=AC4 h2;rw[ADn];exact⟨br,rfl⟩)
   rcases X with⟨h7,hz,E,hB⟩ | ⟨e,he,E⟩
   · refine .inl ⟨Ev.bind (DG _ _ _ _ _ _ _ _ _) (Ev.AP jq (Ev.AK rfl ?_)), .inl ⟨rfl,_,hB,rfl⟩,λ_=>⟨h7,hz⟩⟩
     dsimp only[BS];rw[w1];exact Ev.bind E (Ev.step (λk=>AL.uz.eq_2 ..) (Ev.AK rfl (Ev.same rfl)))
   · refine .inr ⟨e,he,Ev.bind (DG _ _ _ _ _ _ _ _ _) (Ev.AP jq (Ev.AK rfl ?_))⟩
     dsimp only[BS];rw[w1];refine Ev.bind E (Ev.step (λk=>AL.uz.eq_2 ..) (Ev.AP he (Ev.same ?_)));dsimp only[BS,wv,zV];rw[w2]
 · obtain⟨b,ub,rfl⟩:=AFY hx
   rw[if_neg jr];have E1:=dw nX (op:=op) ub hU;have ee:fdo sq op b y'.2.1=fdo sq op b y.2.1:=by
    by_cases h:4<=op/\op<=7
    · rw[(hy h).1]
    · exact ACz h
   rw[ee] at E1;refine .inl ⟨Ev.bind (DG _ _ _ _ _ _ _ _ _) (Ev.AP jq (Ev.AP jr (Ev.AK rfl (Ev.bind E1 (Ev.step (λk=>AL.uz.eq_2 ..) (Ev.AK rfl (Ev.same ?_))))))), .inr ⟨rfl,_, ?_,rfl⟩,λz=>absurd z jr⟩
   · dsimp only[BS,wv]
     rw[w1];rfl
   · rw[<-ee]
     exact AGh nX ub hU
theorem AFZ {sq:Int->Int} (nX:jo sq) (hm:m=0\/m=1) {op:Int} (h0:3<=op) (h1:op<=10) {x y:V5} (hx:dH 2560 m x) (hy:4<=op/\op<=7->dH 2560 m y) (hn:0<=n/\n<=1000000) :
 (Ev (bG (BS m met n tie 0) op x y) (wv (opv sq m op x y) (BS m met (n+1) tie 0))/\dH 6000 m (opv sq m op x y)/\(m=0->op<=7/\(op=7->de y.1≠0)))\/ ∃e,e≠0/\Ev (bG (BS m met n tie 0) op x y) (wv zV (BS m met n tie e)):=by
 by_cases hb:4<=op/\op<=7
 · rcases AGr (two:=true) (met:=met) (tie:=tie) nX hm h0 h1 hx (λh=>⟨rfl,hy h⟩) (AGi (hy hb)) hn with⟨E,r⟩ | ⟨e,he,E⟩
   · exact .inl ⟨Rw h0 h1 (λ_=>E) (λz=>absurd hb z),r⟩
   · exact .inr ⟨e,he,Rw h0 h1 (λ_=>E) (λz=>absurd hb z)⟩
 · rcases AGr (y:=y) (y':=zV) (two:=false) (met:=met) (tie:=tie) nX hm h0 h1 hx (λh=>absurd h hb) U_0 hn with⟨E,r⟩ | ⟨e,he,E⟩
   · exact .inl ⟨Rw h0 h1 (λz=>absurd z hb) (λ_=>E),r⟩
   · exact .inr ⟨e,he,Rw h0 h1 (λz=>absurd z hb) (λ_=>E)⟩
theorem AFa (hm:m=0\/m=1) {x y:V5} (hx:dH 2560 m x) (hy:dH 2560 m y) (hl:met.length<=1000) :
 ∃b t,Ev (bH (BS m met n tie 0) x y) (b,BS m (met++ [b]) n t 0):=by
 have hl2:met.length<=1000000:=by omega
 unfold bH;rcases hm with rfl | rfl
 · obtain⟨p,bp,rfl⟩:=AC4 hx
   obtain⟨q,bq,rfl⟩:=AC4 hy;have fs:Fit (p.num*q.den-q.num*p.den) (p.den*q.den):=by
    have:=AAG bp (AAF bq);rw[AO0,<-Int.sub_eq_add_neg] at this;exact AAE this (by omega)
   have C:=wo (KV bp (by omega)) (KV bq (by omega)) fs;generalize ACg (p.num*q.den-q.num*p.den)=c at *;refine⟨decide (c<0),if tie=true then true else c==0,Ev.bind (DG _ _ _ _ _ _ _ _ _) (Ev.AP jq (Ev.AP (by dsimp only[BS];omega) (Ev.AK rfl (Ev.bind C ?_))))⟩;by_cases h:tie=true
   · rw[if_pos h];exact Ev.AK h (Qb hl2)
   · rw[if_neg h];exact Ev.AP h (Qb hl2)
 · obtain⟨p,bp,rfl⟩:=AFY hx
   obtain⟨q,bq,rfl⟩:=AFY hy;refine⟨less p q,if tie=true then true else if less p q=true then false else !(less q p),Ev.bind (DG _ _ _ _ _ _ _ _ _) (Ev.AP jq (Ev.AP (by dsimp only[BS];omega) (Ev.AP jr (Ev.AK rfl (Ev.AX (J8 bp bq) ?_)))))⟩;by_cases h:tie=true
   · rw[if_pos h];exact Ev.AK h (Qb hl2)
   rw[if_neg h];refine Ev.AP h ?_;by_cases h2:less p q=true
   · rw[if_pos h2];exact Ev.AK h2 (Qb hl2)
   · rw[if_neg h2];exact Ev.AP h2 (Ev.AX (J8 bq bp) (Qb hl2))
end
def CS (i:Int) (p:List I6) (ak met:List Bool) (ad n:Int):BT:=(2,i,p,ak,met,ad,n,false,0)
def rv (r:Int):V5:=(zR,0,r)
section
variable {i:Int} {p:List I6} {ak met:List Bool} {ad n:Int}
theorem AC5 : ¬(2:Int)=0:=by decide
theorem AC6 : ¬(2:Int)=1:=by decide
theorem xK {α:Type} (a:List α) (x:α):(a++ [x]).length=a.length+1:=by simp
theorem jv (hp:p.length<=1000) (x:I6):Ev (λk=>Bj.f k 2 i p ak met ad n false 0 x.1 x.2.1 x.2.2.1 x.2.2.2.1 x.2.2.2.2.1 x.2.2.2.2.2) (wv (rv p.length) (CS i (p++ [x]) ak met ad n)):=by
 refine Ev.AP (by omega) (Ev.AK (by omega) (Ev.same ?_));have e:wrap64 (((p++ [x]).length:Int)-1)=(p.length:Int):=by
  rw[xK,AE (by omega) (by omega)];omega
 show some (false,[],[],0,wrap64 (((p++ [x]).length:Int)-1),2,i,p++ [x],ak,met,ad,n,false,0)=_;rw[e];rfl
theorem AGs (hp:p.length<=1000) (hi:0<=i/\i<=1000) (P Q W:Int):Ev (bF (CS i p ak met ad n) P Q W) (wv (rv p.length) (CS (i+1) (p++ [(1,i,0,false,[],[])]) ak met ad n)):=by
 have w1:wrap64 (i+1)=i+1:=by rw[AE (by omega) (by omega)]
 unfold bF CS;dsimp only;refine Ev.bind (DG _ _ _ _ _ _ _ _ _) (Ev.AP jq (Ev.AP AC5 (Ev.AP AC6 (Ev.bind (jv hp (1,i,0,false,[],[])) (Ev.AK rfl (Ev.same ?_))))));dsimp only[wv,CS];rw[w1]
theorem AGt (hp:p.length<=1000) {P Q:Int} (hP:dI P) (hQ:dI Q) (h:Q≠0):Ev (dz (CS i p ak met ad n) P Q) (wv (rv p.length) (CS i (p++ [(2,0,0,en ((P:Rat)/(Q:Rat)))]) ak met ad n)):=by
 unfold dz CS;dsimp only;exact Ev.bind (DG _ _ _ _ _ _ _ _ _) (Ev.AP jq (Ev.bind ((LO hP hQ).1 h) (Ev.AK rfl (Ev.AP AC5 (Ev.AP AC6 (Ev.bind (jv hp (2,0,0,en ((P:Rat)/(Q:Rat)))) (Ev.same rfl)))))))
theorem u5 {r:Int} (h0:0<=r) (h1:r<p.length) (v:R3) (b:Int):Ev (λk=>Bs.f k 2 i p ak met ad n false 0 v.1 v.2.1 v.2.2 b r) (true,CS i p ak met ad n):=Ev.AP (by omega) (Ev.AP (by omega) (Ev.same rfl))
theorem AGu (hp:p.length<=1000) (hn:0<=n/\n<=1000000) (op:Int) {r r2:Int} (h0:0<=r) (h1:r<p.length) {y:V5} {two:Bool} (hy:two=true->y=rv r2/\0<=r2/\r2<p.length) (hz:two=false->r2=0) :
 Ev (doF (CS i p ak met ad n) op (rv r) y two) (wv (rv p.length) (CS i (p++ [(op,r,r2,false,[],[])]) ak met ad (n+1))):=by
 have w1:wrap64 (n+1)=n+1:=by rw[AE (by omega) (by omega)]
 have J : ∀z:I6,Ev (λk=>AL.j10 k false [] [] 0 0 false [] [] 0 0 z.1 z.2.1 z.2.2.1 z.2.2.2.1 z.2.2.2.2.1 z.2.2.2.2.2 2 i p ak met ad (n+1) false 0) (wv (rv p.length) (CS i (p++ [z]) ak met ad (n+1))):=λz =>
  Ev.step (λk=>AL.j10.eq_2 ..) (Ev.bind (jv hp z) (Ev.step (λk=>AL.uz.eq_2 ..) (Ev.AK rfl (Ev.same rfl))))
 unfold doF CS;dsimp only;refine Ev.bind (DG _ _ _ _ _ _ _ _ _) (Ev.AP jq (Ev.AP AC5 (Ev.AP AC6 ?_)));dsimp only;rw[w1];refine Ev.bind (u5 h0 h1 zR 0) (Ev.AK rfl ?_);cases two
 · rw[hz rfl]
   exact Ev.AP ff (Ev.step (λk=>AL.j7.eq_2 ..) (Ev.AP ff (J (op,r,0,false,[],[]))))
 · obtain⟨rfl,h2,h3⟩:=hy rfl
   exact Ev.AK rfl (Ev.bind (u5 h2 h3 zR 0) (Ev.AK rfl (Ev.step (λk=>AL.j7.eq_2 ..) (Ev.AK rfl (J (op,r,r2,false,[],[]))))))
theorem AAt (hp:p.length<=1000) (hn:0<=n/\n<=1000000) {op:Int} (h3:3<=op) (h4:op<=10) {r r2:Int} (h0:0<=r) (h1:r<p.length) {y:V5} (hy:4<=op/\op<=7->y=rv r2/\0<=r2/\r2<p.length) (hz : ¬(4<=op/\op<=7)->r2=0) :
 Ev (bG (CS i p ak met ad n) op (rv r) y) (wv (rv p.length) (CS i (p++ [(op,r,r2,false,[],[])]) ak met ad (n+1))) :=
 Rw h3 h4 (λh=>AGu hp hn op h0 h1 (λ_=>hy h) (λz=>absurd z (by decide))) (λh=>AGu hp hn op h0 h1 (λz=>absurd z (by decide)) (λ_=>hz h))
end
end
section
def SS (m i:Int) (p:List I6) (met:List Bool) (n:Int) (tie:Bool) (e:Int):BT:=(m,i,p,[],met,0,n,tie,e)
def acF (a:A6) (s:BT) (l:List V5) (t:List Bool):Nat->Option Yg:=stF a.1 a.2.1 a.2.2.1 a.2.2.2.1 a.2.2.2.2.1 a.2.2.2.2.2 s l t
structure aQ (m:Int) (N:Nat) (i:Int) (p:List I6) (met:List Bool) (n:Int) (tie:Bool) (e:Int) (l:List V5):Prop where
 i0:0<=i
 i1:i<=N
 p1:p.length<=N
 m1:met.length<=N
 n0:0<=n
 n1:n<=N
 l1:l.length<=N
 sz:Szs l
 ex:m<=1->i=0/\p= []
 wr:m=2->tie=false
 va:e=0->m<=1-> ∀v∈l,dH 2560 m v
 vw:e=0->m=2-> ∀v∈l,∃r:Nat,r<p.length/\v=rv r
def AFb (l:List V5):Prop:= ∀v∈l,(v.1.2.1.length:Int)<=40/\(v.1.2.2.length:Int)<=40
theorem Yh {α:Type} (a:List α) (x:α):(a++ [x]).length=a.length+1:=by simp
theorem AAu {α:Type} {P:α->Prop} {l:List α} {v:α} (h : ∀x∈l,P x) (hv:P v) : ∀x∈l++ [v],P x:=λu hu=>by
 rcases ANp.1 hu with h2 | h2
 · exact h u h2
 · rw[APK.1 h2];exact hv
theorem AGv:zV.1.2.1.length<=1000000/\zV.1.2.2.length<=1000000:=⟨by simp[zV],by simp[zV]⟩
section
variable {m i:Int} {p:List I6} {met:List Bool} {n:Int} {tie:Bool} {e:Int}
theorem AGw (he:e≠0) (P Q W:Int):Ev (bF (SS m i p met n tie e) P Q W) (wv zV (SS m i p met n tie e)):=by
 unfold bF SS;dsimp only;exact Ev.bind (DG _ _ _ _ _ _ _ _ _) (Ev.AK (by simpa using he) (Ev.same rfl))
theorem AGx (he:e≠0) (P Q:Int):Ev (dz (SS m i p met n tie e) P Q) (wv zV (SS m i p met n tie e)):=by
 unfold dz SS;dsimp only;exact Ev.bind (DG _ _ _ _ _ _ _ _ _) (Ev.AK (by simpa using he) (Ev.same rfl))
theorem AGy (he:e≠0) (op:Int) (x y:V5) (two:Bool):Ev (doF (SS m i p met n tie e) op x y two) (wv zV (SS m i p met n tie e)):=by
 unfold doF SS;dsimp only;exact Ev.bind (DG _ _ _ _ _ _ _ _ _) (Ev.AK (by simpa using he) (Ev.same rfl))
theorem AFc (he:e≠0) {op:Int} (h0:3<=op) (h1:op<=10) (x y:V5):Ev (bG (SS m i p met n tie e) op x y) (wv zV (SS m i p met n tie e)):=Rw h0 h1 (λ_=>AGy he op x y true) (λ_=>AGy he op x zV false)
theorem AFd (he:e≠0) (x y:V5):Ev (bH (SS m i p met n tie e) x y) (false,SS m i p met n tie e):=by
 unfold bH SS;dsimp only;exact Ev.bind (DG _ _ _ _ _ _ _ _ _) (Ev.AK (by simpa using he) (Ev.same rfl))
theorem AGz {P Q W:Int} (hP:dI P) (hQ:Q=0):Ev (bF (SS 0 0 [] met n tie 0) P Q W) (wv zV (SS 0 0 [] met n tie 4)):=by
 unfold bF SS;dsimp only;exact Ev.bind (DG _ _ _ _ _ _ _ _ _) (Ev.AP jq (Ev.AK rfl (Ev.bind ((LO hP (by subst hQ;unfold dI;decide)).2 hQ) (Ev.same rfl))))
theorem ADp {P Q:Int} (hP:dI P) (hQ:Q=0):Ev (dz (SS m i p met n tie 0) P Q) (wv zV (SS m i p met n tie 4)):=by
 unfold dz SS;dsimp only;exact Ev.bind (DG _ _ _ _ _ _ _ _ _) (Ev.AP jq (Ev.bind ((LO hP (by subst hQ;unfold dI;decide)).2 hQ) (Ev.AP (show¬(4:Int)=0 by decide) (Ev.same rfl))))
theorem AG0 {P Q W:Int} (hb:U W):Ev (bF (SS 1 0 [] met n tie 0) P Q W) (wv (AAs 1 P Q W) (SS 1 0 [] met n tie 0)):=by
 unfold bF SS;dsimp only;exact Ev.bind (DG _ _ _ _ _ _ _ _ _) (Ev.AP jq (Ev.AP jr (Ev.AK rfl (Ev.AX (Mr hb) (Ev.same rfl)))))
theorem AFe {r r2:Int} (h0:0<=r) (h1:r<p.length) (h2:0<=r2) (h3:r2<p.length) (hm:met.length<=1000):Ev (bH (SS 2 i p met n false 0) (rv r) (rv r2)) (false,SS 2 i p met n false 20):=by
 have A:Ev (λk=>Da.f k 2 i p [] met 0 n false 0) (false,SS 2 i p met n false 20):=by
  refine Ev.AK (by simp) (Ev.bind (Wm _ _ _ _ _ _ _ _ _) (Ev.same rfl))
 have J:Ev (λk=>AZ.xF k false 2 i p [] met 0 n false 20) (false,SS 2 i p met n false 20):=Ev.step (λk=>AZ.xF.eq_2 ..) (Ev.AP (by decide) (Ev.same rfl));have T1 : ∀ {q:Int},0<=q->q<p.length->Ev (λk=>Bs.f k 2 i p [] met 0 n false 0 zR.1 zR.2.1 zR.2.2 0 q) (true,SS 2 i p met n false 0):=λa b=>Ev.AP (by omega) (Ev.AP (by omega) (Ev.same rfl))
 unfold bH SS;dsimp only;exact Ev.bind (DG _ _ _ _ _ _ _ _ _) (Ev.AP jq (Ev.AP (by dsimp only;omega) (Ev.AP AC5 (Ev.AP AC6 (Ev.bind (T1 h0 h1) (Ev.AK rfl (Ev.bind (T1 h2 h3) (Ev.AK rfl (Ev.bind A J)))))))))
end
def bI (m:Int) (N:Nat) (a:A6) (i:Int) (p:List I6) (met:List Bool) (n:Int) (tie:Bool) (e:Int) (l:List V5) (t:List Bool):Prop :=
 ∃i' p' met' n' bJ e' l' t',Ev (acF a (SS m i p met n tie e) l t) (oS (SS m i' p' met' n' bJ e') l' t')/\i<=i'/\p <+: p'/\met <+: met'/\n<=n'/\l'.length<=N+1/\t'.length<=t.length+1/\Szs l'/\(AFb l'->aQ m (N+1) i' p' met' n' bJ e' l')
section
variable {m:Int} {N:Nat} {a:A6} {i:Int} {p:List I6} {met:List Bool} {n:Int} {tie:Bool} {e:Int} {l:List V5} {t:List Bool}
theorem aQ.more (O:aQ m N i p met n tie e l):aQ m (N+1) i p met n tie e l :=
 ⟨O.i0,by have:=O.i1;omega,by have:=O.p1;omega,by have:=O.m1;omega,O.n0,by have:=O.n1;omega,by have:=O.l1;omega,O.sz,O.ex,O.wr,O.va,O.vw⟩
theorem aQ.out (O:aQ m N i p met n tie e l) (E:Ev (acF a (SS m i p met n tie e) l t) (oS (SS m i p met n tie e) l t)):bI m N a i p met n tie e l t :=
 ⟨i,p,met,n,tie,e,l,t,E,by omega,AOb _,AOb _,by omega,by have:=O.l1;omega,by omega,O.sz,λ_=>O.more⟩
theorem aQ.bad (O:aQ m N i p met n tie e l) {e':Int} (he:e'≠0) (E:Ev (acF a (SS m i p met n tie e) l t) (oS (SS m i p met n tie e') (l++ [zV]) t)):bI m N a i p met n tie e l t:=by
 have hs:Szs (l++ [zV]):=AAu O.sz AGv;have hl:=O.l1;exact⟨i,p,met,n,tie,e',l++ [zV],t,E,by omega,AOb _,AOb _,by omega,by rw[Yh];omega,by omega,hs,λ_ =>
  ⟨O.i0,by have:=O.i1;omega,by have:=O.p1;omega,by have:=O.m1;omega,O.n0,by have:=O.n1;omega,by rw[Yh];omega,hs,O.ex,O.wr,λh=>absurd h he,λh=>absurd h he⟩⟩
theorem aQ.AG1 (O:aQ m N i p met n tie e l) {e':Int} (he:e'≠0) (E:Ev (acF a (SS m i p met n tie e) l t) (oS (SS m i p met n tie e') l (t++ [false]))):bI m N a i p met n tie e l t:=by
 have hl:=O.l1;exact⟨i,p,met,n,tie,e',l,t++ [false],E,by omega,AOb _,AOb _,by omega,by omega,by rw[Yh];omega,O.sz,λ_ =>
  ⟨O.i0,by have:=O.i1;omega,by have:=O.p1;omega,by have:=O.m1;omega,O.n0,by have:=O.n1;omega,by omega,O.sz,O.ex,O.wr,λh=>absurd h he,λh=>absurd h he⟩⟩
theorem AFf {c m:Int} {v:V5} (h:dH c m v) (hc:c<=6000):v.1.2.1.length<=1000000/\v.1.2.2.length<=1000000:=AAo (e:=0) (.inl ⟨rfl,by
 rcases h with⟨h,q,hq,r⟩ | h
 · exact .inl ⟨h,q,hq.mono hc,r⟩
 · exact .inr h⟩)
theorem aQ.val (O:aQ m N 0 [] met n tie 0 l) (hm:m<=1) {c:Int} (hc:c<=6000) {v:V5} (hv:dH c m v) {n':Int} (h0:n<=n') (h1:n'<=n+1) (E:Ev (acF a (SS m 0 [] met n tie 0) l t) (oS (SS m 0 [] met n' tie 0) (l++ [v]) t)):bI m N a 0 [] met n tie 0 l t:=by
 have hl:=O.l1;have hn0:=O.n0;have hn1:=O.n1;have hs:Szs (l++ [v]):=AAu O.sz (AFf hv hc);refine⟨0,[],met,n',tie,0,l++ [v],t,E,by omega,AOb _,AOb _,h0,by rw[Yh];omega,by omega,hs,λhq =>
  ⟨O.i0,by omega,by simp,by have:=O.m1;omega,by omega,by omega,by rw[Yh];omega,hs,O.ex,O.wr,λ_ h=>AAu (O.va rfl h) ?_,λ_ h=>by omega⟩⟩
 have:=hq v (ANK _ (APK.2 rfl));exact xG hv this.1 this.2
theorem aQ.ins (O:aQ 2 N i p met n tie 0 l) {i' n':Int} (wE:i<=i') (hi1:i'<=i+1) (h0:n<=n') (h1:n'<=n+1) {x:I6} (E:Ev (acF a (SS 2 i p met n tie 0) l t) (oS (SS 2 i' (p++ [x]) met n' tie 0) (l++ [rv p.length]) t)):bI 2 N a i p met n tie 0 l t:=by
 have hl:=O.l1;have hp:=O.p1;have hn0:=O.n0;have hn1:=O.n1;have hi2:=O.i0;have hi3:=O.i1;have hs:Szs (l++ [rv p.length]):=AAu O.sz ⟨by simp[rv,zR],by simp[rv,zR]⟩;refine⟨i',p++ [x],met,n',tie,0,l++ [rv p.length],t,E,wE,⟨[x],rfl⟩,AOb _,h0,by rw[Yh];omega,by omega,hs,λhq =>
  ⟨by omega,by omega,by rw[Yh];omega,by have:=O.m1;omega,by omega,by omega,by rw[Yh];omega,hs,λh=>by omega,O.wr,λ_ h=>by omega,λ_ _=>AAu (λv hv=> ?_) ⟨p.length,by rw[Yh];omega,rfl⟩⟩⟩
 obtain⟨r,h1,h2⟩:=O.vw rfl rfl v hv;exact⟨r,by rw[Yh];omega,h2⟩
theorem aQ.cmp (O:aQ m N 0 [] met n tie 0 l) (hm:m<=1) (b bJ:Bool) (E:Ev (acF a (SS m 0 [] met n tie 0) l t) (oS (SS m 0 [] (met++ [b]) n bJ 0) l (t++ [b]))):bI m N a 0 [] met n tie 0 l t:=by
 have hl:=O.l1;exact⟨0,[],met++ [b],n,bJ,0,l,t++ [b],E,by omega,AOb _,⟨[b],rfl⟩,by omega,by omega,by rw[Yh];omega,O.sz,λ_ =>
  ⟨O.i0,by omega,by simp,by have:=O.m1;rw[Yh];omega,O.n0,by have:=O.n1;omega,by omega,O.sz,O.ex,λh=>by omega,O.va,λ_ h=>by omega⟩⟩
theorem bK {sq:Int->Int} (nX:jo sq) (hm0:0<=m) (hm2:m<=2) (ha:AOk a) (O:aQ m N i p met n tie e l) (hN:N<=500) (ht:t.length<=1000):bI m N a i p met n tie e l t:=by
 have hl:=O.l1;have AMs:=O.m1;have hp:=O.p1;by_cases hout : ¬Can a.1 a.2.1 a.2.2.1 l.length\/a.1<0\/a.1=2\/11<a.1
 · exact O.out (AAq hout)
 have hc:Can a.1 a.2.1 a.2.2.1 l.length:=Classical.byContradiction λz=>hout (.inl z)
 have hr : ¬(a.1<0\/a.1=2\/11<a.1):=λz=>hout (.inr z)
 by_cases he:e≠0
 · by_cases h0:a.1=0
   · exact O.bad he (Qc h0 (by omega) (AGw he _ _ _))
   by_cases h1:a.1=1
   · exact O.bad he (Qd h1 (by omega) (AGx he _ _))
   by_cases h11:a.1=11
   · exact O.AG1 he (Wn h11 hc (by omega) (by omega) (AFd he _ _))
   · exact O.bad he (VJ (by omega) hc (by omega) (AFc he (by omega) (by omega) _ _))
 have he:e=0:=by omega
 subst he;by_cases hm:m<=1
 · obtain⟨rfl,rfl⟩:=O.ex hm
   have hm':m=0\/m=1:=(by omega);have va:=O.va rfl hm;by_cases h0:a.1=0
   · rcases hm' with rfl | rfl
     · by_cases hQ:a.2.2.2.2.1=0
       · exact O.bad (e':=4) (by decide) (Qc h0 (by omega) (AGz ha.1 hQ))
       · obtain⟨E,hv⟩:=AGp (met:=met) (n:=n) (tie:=tie) (.inl rfl) ha.1 ha.2.1 ha.2.2 hQ
         exact O.val hm (c:=2560) (by omega) hv (by omega) (by omega) (Qc h0 (by omega) E)
     · exact O.val hm (c:=2560) (by omega) (v:=AAs 1 a.2.2.2.1 a.2.2.2.2.1 a.2.2.2.2.2) (.inr ⟨rfl,_,AGg ha.2.2,rfl⟩) (by omega) (by omega) (Qc h0 (by omega) (AG0 ha.2.2))
   by_cases h1:a.1=1
   · by_cases hQ:a.2.2.2.2.1=0
     · exact O.bad (e':=4) (by decide) (Qd h1 (by omega) (ADp ha.1 hQ))
     · obtain⟨E,hv⟩:=(AGq (met:=met) (n:=n) (tie:=tie) hm' ha.1 ha.2.1).1 hQ
       exact O.val hm (c:=2560) (by omega) hv (by omega) (by omega) (Qd h1 (by omega) E)
   by_cases h11:a.1=11
   · have hA:=hc.1 (by omega)
     have hB:=hc.2 (.inr h11);obtain⟨b,t',E⟩:=AFa (met:=met) (n:=n) (tie:=tie) hm' (va _ (Ly hA.1 hA.2)) (va _ (Ly hB.1 hB.2)) (by omega);exact O.cmp hm b t' (Wn h11 hc (by omega) (by omega) E)
   have hA:=hc.1 (by omega);rcases AFZ (op:=a.1) (met:=met) (n:=n) (tie:=tie) nX hm' (by omega) (by omega) (va _ (Ly hA.1 hA.2)) (y:=bck l a.2.2.1) (λh=>va _ (Ly (hc.2 (.inl h)).1 (hc.2 (.inl h)).2)) (by have:=O.n0;have:=O.n1;omega) with⟨E,hv,_⟩ | ⟨e,he,E⟩
   · exact O.val hm (c:=6000) (by omega) hv (by omega) (by omega) (VJ (by omega) hc (by omega) E)
   · exact O.bad he (VJ (by omega) hc (by omega) E)
 · obtain rfl:m=2:=by omega
   obtain rfl:=O.wr rfl;have vw:=O.vw rfl rfl;have wE:=O.i0;have hi1:=O.i1;by_cases h0:a.1=0
   · exact O.ins (i':=i+1) (n':=n) (by omega) (by omega) (by omega) (by omega) (Qc h0 (by omega) (AGs (by omega) (by omega) _ _ _))
   by_cases h1:a.1=1
   · by_cases hQ:a.2.2.2.2.1=0
     · exact O.bad (e':=4) (by decide) (Qd h1 (by omega) (ADp ha.1 hQ))
     · exact O.ins (i':=i) (n':=n) (by omega) (by omega) (by omega) (by omega) (Qd h1 (by omega) (AGt (by omega) ha.1 ha.2.1 hQ))
   by_cases h11:a.1=11
   · have hA:=hc.1 (by omega)
     have hB:=hc.2 (.inr h11);obtain⟨r,r1,r2⟩:=vw _ (Ly hA.1 hA.2);obtain⟨q,q1,q2⟩:=vw _ (Ly hB.1 hB.2);refine O.AG1 (e':=20) (by decide) (Wn h11 hc (by omega) (by omega) ?_);rw[r2,q2];exact AFe (by omega) (by omega) (by omega) (by omega) (by omega)
   have hA:=hc.1 (by omega);obtain⟨r,r1,r2⟩:=vw _ (Ly hA.1 hA.2);have hn0:=O.n0;have hn1:=O.n1;by_cases h2:4<=a.1/\a.1<=7
   · have hB:=hc.2 (.inl h2)
     obtain⟨q,q1,q2⟩:=vw _ (Ly hB.1 hB.2);refine O.ins (i':=i) (n':=n+1) (by omega) (by omega) (by omega) (by omega) (x:=(a.1,(r:Int),(q:Int),false,[],[])) (VJ (by omega) hc (by omega) ?_);rw[r2];exact AAt (by omega) (by omega) (by omega) (by omega) (by omega) (by omega) (λ_=>⟨q2,by omega,by omega⟩) (λz=>absurd h2 z)
   · refine O.ins (i':=i) (n':=n+1) (by omega) (by omega) (by omega) (by omega) (x:=(a.1,(r:Int),0,false,[],[])) (VJ (by omega) hc (by omega) ?_)
     rw[r2];exact AAt (by omega) (by omega) (by omega) (by omega) (by omega) (by omega) (λz=>absurd z h2) (λ_=>rfl)
end
end
section
abbrev MK:=Int × Int × Int × Int × Int × Bool × Int
def mkO (i:Int) (p:List I6) (met:List Bool) (n:Int) (tie:Bool) (e:Int):MK:=(p.length,0,met.length,n,i,tie,e)
def u0F (a1 a2:List A6) (j:Int) (l:List V5) (t:List Bool) (s:BT) (k:Nat):Option Bool:=AG.l0 k a1 a2 (a1.length:Int) j l t l t s.1 s.2.1 s.2.2.1 s.2.2.2.1 s.2.2.2.2.1 s.2.2.2.2.2.1 s.2.2.2.2.2.2.1 s.2.2.2.2.2.2.2.1 s.2.2.2.2.2.2.2.2 s.1 s.2.1 s.2.2.1 s.2.2.2.1 s.2.2.2.2.1 s.2.2.2.2.2.1 s.2.2.2.2.2.2.1 s.2.2.2.2.2.2.2.1 s.2.2.2.2.2.2.2.2
def u1F (a2:List A6) (j:Int) (l:List V5) (t:List Bool) (x:MK) (z:List V5) (tz:List Bool) (s c:BT) (k:Nat):Option Bool:=AG.l1 k a2 (a2.length:Int) j l t l t x.1 x.2.1 x.2.2.1 x.2.2.2.1 x.2.2.2.2.1 x.2.2.2.2.2.1 x.2.2.2.2.2.2 z tz s.1 s.2.1 s.2.2.1 s.2.2.2.1 s.2.2.2.2.1 s.2.2.2.2.2.1 s.2.2.2.2.2.2.1 s.2.2.2.2.2.2.2.1 s.2.2.2.2.2.2.2.2 c.1 c.2.1 c.2.2.1 c.2.2.2.1 c.2.2.2.2.1 c.2.2.2.2.2.1 c.2.2.2.2.2.2.1 c.2.2.2.2.2.2.2.1 c.2.2.2.2.2.2.2.2
def u2F (a2:List A6) (j:Int) (l:List V5) (t:List Bool) (s:BT) (k:Nat):Option Bool:=AG.l2 k a2 (a2.length:Int) j l t l t s.1 s.2.1 s.2.2.1 s.2.2.2.1 s.2.2.2.2.1 s.2.2.2.2.2.1 s.2.2.2.2.2.2.1 s.2.2.2.2.2.2.2.1 s.2.2.2.2.2.2.2.2 s.1 s.2.1 s.2.2.1 s.2.2.2.1 s.2.2.2.2.1 s.2.2.2.2.2.1 s.2.2.2.2.2.2.1 s.2.2.2.2.2.2.2.1 s.2.2.2.2.2.2.2.2
theorem Wo {m i:Int} {p:List I6} {met:List Bool} {n:Int} {tie:Bool} {e:Int} :Ev (λk=>CL.f k m i p [] met 0 n tie e) (p.length,0,met.length,n,i,tie,e,SS m i p met n tie e):=⟨0,λ_ _=>rfl⟩
theorem AC7 {a b c d f h:Int} {g:Bool} :(a==a&&(b==b&&(c==c&&(d==d&&(f==f&&(g==g&&(h==h&&true)))))))=true:=by simp
theorem AAv {a b c d f h:Int} {g:Bool} : ¬((!(a==a&&(b==b&&(c==c&&(d==d&&(f==f&&(g==g&&(h==h&&true))))))))=true):=by simp
theorem AAw {m i:Int} {p:List I6} {met:List Bool} {n:Int} {tie:Bool} {e:Int} (h:met.length<=1000):Ev (λk=>EM.f k m i p [] met 0 n tie e) (met,SS m i p met n tie e):=Ev.AK (by simp;omega) (Ev.same rfl)
theorem wJ {Kq:List A6} {j:Nat} (hi:j<Kq.length) (hL:Kq.length<=40):wrap64 ((j:Int)+1)=((j+1:Nat):Int):=by rw[AE (by omega) (by omega)];omega
section
variable {sq:Int->Int} {m:Int}
theorem AJi (nX:jo sq) (hm0:0<=m) (hm2:m<=2) {Kq:List A6} (hL:Kq.length<=40) (hw : ∀a∈Kq,AOk a) (hsame:Ev (λk=>AM.f k) true) (d:Nat) : ∀(j N:Nat) (i:Int) (p:List I6) (met:List Bool) (n:Int) (tie:Bool) (e:Int) (l:List V5) (t:List Bool),j+d=Kq.length->N<=40+j->t.length<=40+j->aQ m N i p met n tie e l ->
 Ev (u2F Kq j l t (SS m i p met n tie e)) true:=by
 induction d with
 | zero =>
   intro j N i p met n tie e l t h1 h2 h3 O;have hl:=O.l1;have hm:=O.m1;refine Ev.step (λk=>AG.l2.eq_2 ..) (Ev.AP (by omega) ?_);exact Ev.bind (AGk (by omega) O.sz) (Ev.AK rfl (Ev.bind Wo (Ev.bind Wo (Ev.AK AC7 (Ev.bind (AAw (met:=met) (by omega)) (Ev.bind (AAw (met:=met) (by omega)) (Ev.bind (AC2 (l:=met) (by omega)) (Ev.AK rfl (Ev.bind hsame (Ev.same rfl))))))))))
 | succ d ih =>
   intro j N i p met n tie e l t h1 h2 h3 O;have hi:j<Kq.length:=(by omega);have ha:AOk (Kq.getD j zA):=(by rw[Rv hi];exact hw _ (AO3 _));obtain⟨i',p',met',n',bJ,e',l',t',E,_,_,_,_,q1,q2,q3,q4⟩:=bK nX hm0 hm2 ha O (by omega) (show t.length<=1000 by omega);obtain⟨r,R1,R2⟩:=sH (l:=l') (t:=t') (by omega);refine Ev.step (λk=>AG.l2.eq_2 ..) (Ev.AK (by omega) (Ev.AK (by omega) (Ev.AK (by omega) ?_)));rw[AAn];refine Ev.bind E (Ev.bind E (Ev.bind R1 ?_));cases r
   · refine Ev.AP (by decide) ?_
     rw[wJ hi hL];exact ih (j+1) (N+1) i' p' met' n' bJ e' l' t' (by omega) (by omega) (by omega) (q4 (R2 rfl))
   · exact Ev.AK rfl (Ev.bind hsame (Ev.same rfl))
theorem AC8 {i:Int} {p:List I6} {met:List Bool} {n:Int} {tie:Bool} {e:Int} (h0:0<=n) (h1:n<=1000) (hi:0<=i) (a5:Bool) (a6:Int):Ev (λk=>DJ.f k m i p [] met 0 n tie e p.length 0 met.length (wrap64 (n+1)) i a5 a6) (false,SS m i p met n tie e):=by
 have w1:wrap64 (n+1)=n+1:=by rw[AE (by omega) (by omega)]
 rw[w1];exact Ev.AP (by omega) (Ev.AP (by omega) (Ev.AP (by omega) (Ev.AP (by omega) (Ev.AP (by omega) (Ev.AP (by omega) (Ev.AP (by omega) (Ev.AK (by omega) (Ev.same rfl))))))))
theorem oF {α:Type} {a b:List α} (h:a <+: b):b.take ((a.length:Int)).toNat=a:=by
 rw[ANI];exact(List.prefix_iff_eq_take.1 h).symm
theorem AAx {i i0:Int} {p p0:List I6} {met jw:List Bool} {n n0:Int} {tie sJ:Bool} {e e0:Int} (wE:0<=i0) (hi:i0<=i) (hp:p0 <+: p) (hm:jw <+: met) (h0:0<=n0) (hn:n0<=n):Ev (λk=>DJ.f k m i p [] met 0 n tie e p0.length 0 jw.length n0 i0 sJ e0) (true,SS m i0 p0 jw n0 sJ e0):=by
 have l1:=hp.length_le;have l2:=hm.length_le;refine Ev.AP (by omega) (Ev.AP (by omega) (Ev.AP (by omega) (Ev.AP (by omega) (Ev.AP (by omega) (Ev.AP (by omega) (Ev.AP (by omega) (Ev.AP (by omega) (Ev.AP (by omega) (Ev.AP (by omega) (Ev.AK (by omega) (Ev.AK (by omega) (Ev.AK (by omega) (Ev.AK (by omega) (Ev.AK (by omega) (Ev.AK (by omega) (Ev.same ?_))))))))))))))));rw[oF hp,oF hm];rfl
theorem AJj (nX:jo sq) (hm0:0<=m) (hm2:m<=2) {Kq:List A6} (hL:Kq.length<=40) (hw : ∀a∈Kq,AOk a) (hsame:Ev (λk=>AM.f k) true) {i0:Int} {p0:List I6} {jw:List Bool} {n0:Int} {sJ:Bool} {e0:Int} {l:List V5} {t:List Bool} (O0:aQ m 40 i0 p0 jw n0 sJ e0 l) (ht:t.length<=40) (d:Nat) : ∀(j N:Nat) (i:Int) (p:List I6) (met:List Bool) (n:Int) (tie:Bool) (e:Int) (z:List V5) (tz:List Bool),j+d=Kq.length->N<=40+j->tz.length<=40+j->aQ m N i p met n tie e z->i0<=i->p0 <+: p->jw <+: met->n0<=n ->
 Ev (u1F Kq j l t (mkO i0 p0 jw n0 sJ e0) z tz (SS m i p met n tie e) (SS m i0 p0 jw n0 sJ e0)) true:=by
 induction d with
 | zero =>
   intro j N i p met n tie e z tz h1 h2 h3 O g1 g2 g3 g4;refine Ev.step (λk=>AG.l1.eq_2 ..) (Ev.AP (by omega) ?_);refine Ev.bind Wo (Ev.bind (AC8 (n:=n) O.n0 (by have:=O.n1;omega) O.i0 _ _) (Ev.AP ff ?_));refine Ev.bind (AAx O0.i0 g1 g2 g3 O0.n0 g4) (Ev.AK rfl (Ev.bind Wo (Ev.bind Wo (Ev.AP AAv ?_))));exact AJi nX hm0 hm2 hL hw hsame Kq.length 0 40 i0 p0 jw n0 sJ e0 l t (by omega) (by omega) (by omega) O0
 | succ d ih =>
   intro j N i p met n tie e z tz h1 h2 h3 O g1 g2 g3 g4;have hi:j<Kq.length:=(by omega);have ha:AOk (Kq.getD j zA):=(by rw[Rv hi];exact hw _ (AO3 _));obtain⟨i',p',met',n',bJ,e',l',t',E,k1,k2,k3,k4,q1,q2,q3,q4⟩:=bK nX hm0 hm2 ha O (by omega) (show tz.length<=1000 by omega);obtain⟨r,R1,R2⟩:=sH (l:=l') (t:=t') (by omega);refine Ev.step (λk=>AG.l1.eq_2 ..) (Ev.AK (by omega) (Ev.AK (by omega) (Ev.AK (by omega) ?_)));rw[AAn];refine Ev.bind E (Ev.bind R1 ?_);cases r
   · refine Ev.AP (by decide) ?_
     rw[wJ hi hL];exact ih (j+1) (N+1) i' p' met' n' bJ e' l' t' (by omega) (by omega) (by omega) (q4 (R2 rfl)) (by omega) (g2.trans k2) (g3.trans k3) (by omega)
   · exact Ev.AK rfl (Ev.bind hsame (Ev.same rfl))
theorem AJW (nX:jo sq) (hm0:0<=m) (hm2:m<=2) {Kq more:List A6} (hL:Kq.length<=40) (hL2:more.length<=40) (hw : ∀a∈Kq,AOk a) (wK : ∀a∈more,AOk a) (hsame:Ev (λk=>AM.f k) true) (d:Nat) : ∀(j:Nat) (i:Int) (p:List I6) (met:List Bool) (n:Int) (tie:Bool) (e:Int) (l:List V5) (t:List Bool),j+d=Kq.length->t.length<=j->aQ m j i p met n tie e l ->
 Ev (u0F Kq more j l t (SS m i p met n tie e)) true:=by
 induction d with
 | zero =>
   intro j i p met n tie e l t h1 h3 O;have hl:=O.l1;have O40:aQ m 40 i p met n tie e l:=⟨O.i0,by have:=O.i1;omega,by have:=O.p1;omega,by have:=O.m1;omega,O.n0,by have:=O.n1;omega,by omega,O.sz,O.ex,O.wr,O.va,O.vw⟩;refine Ev.step (λk=>AG.l0.eq_2 ..) (Ev.AP (by omega) ?_);refine Ev.bind Wo (Ev.AK (by simp;omega) ?_);exact AJj nX hm0 hm2 hL2 wK hsame O40 (by omega) more.length 0 40 i p met n tie e l [] (by omega) (by omega) (by simp) O40 (by omega) (AOb _) (AOb _) (by omega)
 | succ d ih =>
   intro j i p met n tie e l t h1 h3 O;have hi:j<Kq.length:=(by omega);have ha:AOk (Kq.getD j zA):=(by rw[Rv hi];exact hw _ (AO3 _));obtain⟨i',p',met',n',bJ,e',l',t',E,_,_,_,_,q1,q2,q3,q4⟩:=bK nX hm0 hm2 ha O (by omega) (show t.length<=1000 by omega);obtain⟨r,R1,R2⟩:=sH (l:=l') (t:=t') (by omega);refine Ev.step (λk=>AG.l0.eq_2 ..) (Ev.AK (by omega) (Ev.AK (by omega) (Ev.AK (by omega) ?_)));rw[AAn];refine Ev.bind E (Ev.bind E (Ev.bind R1 ?_));cases r
   · refine Ev.AP (by decide) ?_
     rw[wJ hi hL];exact ih (j+1) i' p' met' n' bJ e' l' t' (by omega) (by omega) (q4 (R2 rfl))
   · exact Ev.AK rfl (Ev.bind hsame (Ev.same rfl))
end
end
end Go.Proofs.YtjocbnjpjihpnaaGreat.M
