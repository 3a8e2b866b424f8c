/- What the functions answer, over plain numbers. -/
import Derived.Laws.BitsLemmas
import Derived.Test.YtjocbnjpjihpnaaGreatWWa
import Derived.Test.YtjocbnjpjihpnaaGreatBB
namespace Go.Proofs.YtjocbnjpjihpnaaGreat.M
open Go.RowKit Go.Proofs.YtjocbnjpjihpnaaGreat.P Go.Proofs.YtjocbnjpjihpnaaGreatW.AD Go.Proofs.YtjocbnjpjihpnaaGreatW.AR Go.Proofs.YtjocbnjpjihpnaaGreatW.AY
set_option linter.unusedVariables false
theorem wu (n:Int):IntKind.u64.wrap n=n%18446744073709551616:=by simp[IntKind.wrap,IntKind.bits,IntKind.signed]
theorem DE {n:Int} (h0:0<=n) (h1:n<18446744073709551616):IntKind.u64.wrap n=n:=by rw[wu];omega
theorem AE {n:Int} (h0 : -9223372036854775808<=n) (h1:n<=9223372036854775807):wrap64 n=n:=by unfold wrap64;omega
theorem ZM : ∀n:Int,0<=n->n<2^64->IntKind.u64.wrap n=n:=λn h0 h1=>DE h0 (by omega)
theorem wf_u64 {x:Int} (h:(Lit.int .u64 x).wf=true):0<=x/\x<18446744073709551616:=by
 simp[Lit.wf,Go.IntKind.min,IntKind.max,IntKind.bits,IntKind.signed] at h;omega
theorem wf_i64 {x:Int} (h:(Lit.int .i64 x).wf=true) : -9223372036854775808<=x/\x<=9223372036854775807:=by
 simp[Lit.wf,Go.IntKind.min,IntKind.max,IntKind.bits,IntKind.signed] at h;omega
theorem VQ (i:Nat) (hi:i<=64) (x:Int) (h0:0<=x) (h1:x<18446744073709551616):Go.bits .and .u64 x (2^i-1)=x%2^i :=
 bits_mask .u64 64 (by decide) ZM i hi x h0 (by omega)
theorem S6 (x:Int) (h0:0<=x) (h1:x<18446744073709551616):Go.bits .and .u64 x 4294967295=x%4294967296:=VQ 32 (by decide) x h0 h1
theorem AGX (x:Int) (h0:0<=x) (h1:x<18446744073709551616):Go.bits .and .u64 x 1=x%2:=VQ 1 (by decide) x h0 h1
theorem uk (x:Int) (h0:0<=x) (h1:x<18446744073709551616):Go.bits .and .u64 x 4503599627370495=x%4503599627370496:=VQ 52 (by decide) x h0 h1
theorem AGW (x:Int) (h0:0<=x) (h1:x<18446744073709551616):Go.bits .and .u64 x 2047=x%2048:=VQ 11 (by decide) x h0 h1
theorem FU (i:Nat) (x y:Int) (hx0:0<=x) (hx:x%2^i=0) (hx1:x<18446744073709551616) (hy0:0<=y) (hy:y<2^i) (hy1:y<18446744073709551616):Go.bits .or .u64 x y=x+y :=
 bits_join .u64 64 (by decide) ZM i x y hx0 hx (by omega) hy0 hy (by omega)
theorem af (a b:Nat) (ha:a<2^64) (hb:b<2^64):Go.bits .or .u64 a b=((a ||| b:Nat):Int):=(bits_nat .u64 64 (by decide) ZM a b ha hb).2
theorem ACn (a b:Nat) (ha:a<2^64) (hb:b<2^64):Go.bits .and .u64 a b=((a &&& b:Nat):Int):=(bits_nat .u64 64 (by decide) ZM a b ha hb).1
theorem or_comm (x y:Int) (hx0:0<=x) (hx1:x<18446744073709551616) (hy0:0<=y) (hy1:y<18446744073709551616):Go.bits .or .u64 x y=Go.bits .or .u64 y x:=by
 obtain⟨a,rfl⟩:=ANR hx0;obtain⟨b,rfl⟩:=ANR hy0;rw[af a b (by omega) (by omega),af b a (by omega) (by omega),Nat.or_comm]
theorem VA (x y:Int) (h:y<=64):shr .u64 x y=x/2^y.toNat:=by
 unfold shr;rw[show IntKind.bits .u64=64 from rfl,ANb (by omega)]
theorem Ke (x y:Int) (h:y<=64):shl .u64 x y=x*2^y.toNat%18446744073709551616:=by
 unfold shl;rw[wu,show IntKind.bits .u64=64 from rfl,ANb (by omega)]
theorem _root_.Go.Proofs.YtjocbnjpjihpnaaGreatW.AD.Ev.AK {α:Type} {c:Prop} [Decidable c] {f g:Nat->Option α} {r:α} (h:c) (k:Ev f r):Ev (λn=>if c then f n else g n) r:=by
 obtain⟨K,k⟩:=k;exact⟨K,λn hn=>(if_pos h).trans (k n hn)⟩
theorem _root_.Go.Proofs.YtjocbnjpjihpnaaGreatW.AD.Ev.AP {α:Type} {c:Prop} [Decidable c] {f g:Nat->Option α} {r:α} (h : ¬c) (k:Ev g r):Ev (λn=>if c then f n else g n) r:=by
 obtain⟨K,k⟩:=k;exact⟨K,λn hn=>(if_neg h).trans (k n hn)⟩
theorem _root_.Go.Proofs.YtjocbnjpjihpnaaGreatW.AD.Ev.same {α:Type} {x:Option α} {r:α} (h:x=some r):Ev (λ_=>x) r:=⟨0,λ_ _=>h⟩
theorem _root_.Go.Proofs.YtjocbnjpjihpnaaGreatW.AD.Ev.dF {α:Type} {g:Nat->Option α} {r r':α} (h:Ev g r) (e:r=r'):Ev g r':=e▸h
theorem _root_.Go.Proofs.YtjocbnjpjihpnaaGreatW.AD.Ev.eqv {α:Type} {g f:Nat->Option α} {r:α} (h : ∀k,g k=f k) (k:Ev f r):Ev g r:=by
 obtain rfl:g=f:=funext h;exact k
theorem _root_.Go.Proofs.YtjocbnjpjihpnaaGreatW.AD.Ev.AX {α β:Type} {x:Option α} {f:Nat->α->Option β} {a:α} {r:β} (h:x=some a) (k:Ev (λn=>f n a) r):Ev (λn=>x.bind (f n)) r:=Ev.bind (Ev.same h) k
def bl (x:Int):Int:=if x<=0 then 0 else((Nat.log2 x.toNat+1:Nat):Int)
theorem Kn:bl 0=0:=rfl
theorem B5 (x:Int):0<=bl x:=by unfold bl;split<;>omega
theorem DY {x:Int} (h:0<x):0<bl x:=by unfold bl;rw[if_neg (by omega)];omega
theorem Gf (x:Int):x<2^(bl x).toNat:=by
 unfold bl;split
 · simp only[Int.toNat_zero,ANc];omega
 · rw[ANI]
   have h:= @Nat.lt_log2_self x.toNat;have h3:((x.toNat:Nat):Int)<((2^(Nat.log2 x.toNat+1):Nat):Int):=(by exact_mod_cast h);have h4:((2^(Nat.log2 x.toNat+1):Nat):Int)=(2:Int)^(Nat.log2 x.toNat+1):=by push_cast;rfl
   rw[<-h4];omega
theorem VE {x:Int} (h:0<x):2^(bl x-1).toNat<=x:=by
 unfold bl;rw[if_neg (by omega)];have h1:=Nat.log2_self_le (n:=x.toNat) (by omega);have h3:((2^(Nat.log2 x.toNat):Nat):Int)<=((x.toNat:Nat):Int):=by exact_mod_cast h1
 have h4:((2^(Nat.log2 x.toNat):Nat):Int)=(2:Int)^(Nat.log2 x.toNat):=by push_cast;rfl
 rw[h4] at h3;have e:(((Nat.log2 x.toNat+1:Nat):Int)-1).toNat=Nat.log2 x.toNat:=by omega
 rw[e];omega
theorem Az {a b:Nat} (h:a<=b):(2:Int)^a<=2^b:=by
 have:=Nat.pow_le_pow_right (n:=2) (by decide) h;have h2:((2^a:Nat):Int)<=((2^b:Nat):Int):=by exact_mod_cast this
 rw[AQC,AQC] at h2;exact h2
theorem pow_pos (a:Nat):(0:Int)<2^a:=by
 have:=Nat.two_pow_pos a;have h2:(0:Int)<((2^a:Nat):Int):=by exact_mod_cast this
 rw[AQC] at h2;exact h2
theorem Rx {a b:Nat} (h:(2:Int)^a<2^b):a<b:=by
 rcases ANs a b with h1 | h1
 · exact h1
 · have:=Az h1
   omega
theorem AES {x:Int} {n:Nat} (h1:2^n<=x) (h2:x<2^(n+1)):bl x=n+1:=by
 have hp:=pow_pos n;have hx:0<x:=by omega
 have a1:=Gf x;have a2:=VE hx;have a3:=DY hx;have:n<(bl x).toNat:=Rx (by omega);have:(bl x-1).toNat<n+1:=Rx (by omega);omega
theorem Bw {x:Int} {n:Nat} (h:x<2^n):bl x<=n:=by
 rcases AN7 0 x with hx | hx
 · have a2:=VE hx
   have:(bl x-1).toNat<n:=Rx (by omega);omega
 · have:bl x=0:=by unfold bl;rw[if_pos hx]
   omega
theorem QJ {x:Int} (h:x<18446744073709551616):bl x<=64:=Bw (n:=64) (by omega)
theorem QS {x:Int} {s:Nat} (h:2^s<=x):bl x=bl (x/2^s)+s:=by
 have hp:=pow_pos s;have hq:1<=x/2^s:=by rw[AOD hp];omega
 have a1:=Gf (x/2^s);have a2:=VE (x:=x/2^s) (by omega);have a3:=DY (x:=x/2^s) (by omega);obtain⟨n,hn⟩ : ∃n:Nat,bl (x/2^s)=n+1:=⟨(bl (x/2^s)-1).toNat,by omega⟩;rw[hn] at a1 a2 ⊢;have e1:((n:Int)+1).toNat=n+1:=by omega
 have e2:((n:Int)+1-1).toNat=n:=by omega
 rw[e1] at a1;rw[e2] at a2;have b1:2^n*2^s<=x:=(AOD hp).1 a2;have b2:x<2^(n+1)*2^s:=(ANm hp).1 a1;rw[<-ANl] at b1 b2;rw[AES (n:=n+s) b1 (by rwa [show n+s+1=n+1+s by omega])];omega
def U (x:Int):Prop:=0<=x/\x<18446744073709551616
def Ws (l:List Int):Prop:= ∀x∈l,U x
def Wl (l:List Int):Prop:=Ws l/\l.length<=1000000000
def nv:List Int->Int
 | []=>0
 | x::l=>x+18446744073709551616*nv l
theorem CI (x:Int) (l:List Int):nv (x::l)=x+18446744073709551616*nv l:=rfl
def Wp (n:Nat):Int:=18446744073709551616^n
theorem ML:Wp 0=1:=rfl
theorem DA (n:Nat):Wp (n+1)=18446744073709551616*Wp n:=by unfold Wp;rw[ANi,ANY]
theorem Ej (n:Nat):0<Wp n:=by
 induction n with
 | zero=>decide
 | succ n ih=>rw[DA];omega
theorem Qo (a b:Nat):Wp (a+b)=Wp a*Wp b:=by unfold Wp;rw[ANl]
theorem F6 (n:Nat):Wp n=2^(64*n):=by
 unfold Wp;rw[Int.pow_mul];rfl
theorem bU {a b:Nat} (h:a<=b):Wp a<=Wp b:=by rw[F6,F6];exact Az (by omega)
theorem Hj:Ws []:=λx h=>by simp at h
theorem F7 {x:Int} {l:List Int} :Ws (x::l)↔U x/\Ws l:=by unfold Ws;simp
theorem Wy {a b:List Int} :Ws (a++b)↔Ws a/\Ws b:=by
 unfold Ws;simp only[ANp];exact⟨λh=>⟨λx hx=>h x (.inl hx),λx hx=>h x (.inr hx)⟩,λh x hx=>hx.elim (h.1 x) (h.2 x)⟩
theorem Dw {l:List Int} (h:Ws l) (n:Nat):Ws (l.take n):=λx hx=>h x (APU hx)
theorem MM {l:List Int} (h:Ws l) (n:Nat):Ws (l.drop n):=λx hx=>h x (APV hx)
theorem JZ {x:Int} (h:U x):Ws [x]:=λy hy=>by simp at hy;rw[hy];exact h
theorem VR (n:Nat):Ws (List.replicate n 0):=λx hx=>by rw[AQX hx];unfold U;omega
theorem Gt {l:List Int} (h:Ws l) (i:Int):U (rd l i):=by
 unfold rd;rw[ANJ];rcases ANs i.toNat l.length with hi | hi
 · rw[ANX hi];exact h _ (AO3 hi)
 · rw[ANq hi];unfold U;simp
theorem AN {l:List Int} (h:Ws l):0<=nv l:=by
 induction l with
 | nil=>exact APF 0
 | cons x l ih =>
   have h1:=F7.1 h;have h2:=ih h1.2;have h3:=h1.1.1;rw[CI];omega
theorem KB {l:List Int} (h:Ws l):nv l<Wp l.length:=by
 induction l with
 | nil=>decide
 | cons x l ih =>
   have h1:=F7.1 h;have h2:=ih h1.2;have h3:=h1.1.2;rw[ANt,DA,CI];omega
theorem bV (a b:List Int):nv (a++b)=nv a+Wp a.length*nv b:=by
 induction a with
 | nil=>simp[nv,ML]
 | cons x a ih =>
   rw[APb,ANt,DA,CI,CI,ih]
   grind
theorem Is (x:Int):nv [x]=x:=by rw[CI];show x+18446744073709551616*0=x;omega
theorem HN (a:List Int) (x:Int):nv (a++ [x])=nv a+Wp a.length*x:=by rw[bV,Is]
theorem Qp (n:Nat):nv (List.replicate n 0)=0:=by
 induction n with
 | zero=>rfl
 | succ n ih=>rw[List.replicate_succ,CI,ih];rfl
theorem HQ {l:List Int} {i:Nat} (h:i<l.length):l.take (i+1)=l.take i++ [rd l (i:Int)]:=by
 rw[AO7 h];unfold rd;rw[ANI,ANJ,ANX h];rfl
theorem Bf {l:List Int} {i:Nat} (h:i<l.length):nv (l.take (i+1))=nv (l.take i)+Wp i*rd l (i:Int):=by
 rw[HQ h,HN,ANO,ANb (by omega)]
theorem VS (l:List Int) (i:Nat):nv l=nv (l.take i)+Wp (min i l.length)*nv (l.drop i):=by
 have:=bV (l.take i) (l.drop i);rw[AOm,ANO] at this;exact this
def dgF:Nat->Int->List Int
 | 0,_=> []
 | k+1,n=>if n<=0 then[] else n%18446744073709551616::dgF k (n/18446744073709551616)
def dg (n:Int):List Int:=dgF n.toNat n
theorem VT (k:Nat) {n:Int} (h:n<=0):dgF k n= []:=by
 cases k with
 | zero=>rfl
 | succ k=>unfold dgF;rw[if_pos h]
theorem ABa : ∀(k j:Nat) (n:Int),n.toNat<=k->n.toNat<=j->dgF k n=dgF j n
 | 0,j,n,hk,_=>by rw[VT 0 (by omega),VT j (by omega)]
 | k+1,0,n,_,hj=>by rw[VT _ (by omega),VT 0 (by omega)]
 | k+1,j+1,n,hk,hj=>by
   unfold dgF;by_cases h:n<=0
   · rw[if_pos h,if_pos h]
   · rw[if_neg h,if_neg h,ABa k j _ (by omega) (by omega)]
theorem aX {n:Int} (h:n<=0):dg n= []:=VT _ h
theorem G8:dg 0= []:=rfl
theorem LN {n:Int} (h:0<n):dg n=n%18446744073709551616::dg (n/18446744073709551616):=by
 unfold dg;obtain⟨k,hk⟩ : ∃k,n.toNat=k+1:=⟨n.toNat-1,by omega⟩;rw[hk]
 conv=>lhs;unfold dgF
 rw[if_neg (by omega),ABa k _ _ (by omega) (ANS _)]
theorem sX {P:Int->Prop} (h0:P 0) (hs : ∀n,0<n->P (n/18446744073709551616)->P n) (n:Int) (hn:0<=n):P n:=by
 have key : ∀(k:Nat) (n:Int),0<=n->n.toNat<=k->P n:=by
  intro k;induction k with
  | zero=>intro n h1 h2;obtain rfl:n=0:=by omega
          exact h0
  | succ k ih =>
    intro n h1 h2;rcases(show n=0\/0<n by omega) with rfl | h
    · exact h0
    · exact hs n h (ih _ (by omega) (by omega))
 exact key _ n hn (ANS _)
theorem PS (n:Int):Ws (dg n):=by
 rcases AN7 n 0 with h | h
 · rw[aX (by omega)];exact Hj
 · refine sX (P:=λn=>Ws (dg n)) Hj (λn hn ih=> ?_) n h
   rw[LN hn];exact F7.2 ⟨by unfold U;omega,ih⟩
theorem Aa {n:Int} (h:0<=n):nv (dg n)=n:=by
 refine sX (P:=λn=>nv (dg n)=n) rfl (λn hn ih=> ?_) n h;rw[LN hn,CI,ih];omega
def Cn (l:List Int):Prop:=l= []\/l.getLast? ≠some 0
theorem AI3 {n:Int} (h:0<=n):Cn (dg n):=by
 refine sX (P:=λn=>Cn (dg n)) (.inl rfl) (λn hn ih=> ?_) n h;rw[LN hn];refine .inr ?_;rcases ih with ih | ih
 · have h1:=Aa (n:=n/18446744073709551616) (by omega)
   rw[ih] at h1 ⊢;unfold nv at h1;simp;omega
 · cases hd:dg (n/18446744073709551616) with
   | nil =>
     have h1:=Aa (n:=n/18446744073709551616) (by omega);rw[hd] at h1;unfold nv at h1;simp;omega
   | cons y l =>
     rw[hd] at ih;rw[AQZ];exact ih
theorem vS {x:Int} {l:List Int} (h:Cn (x::l)):Cn l:=by
 cases l with
 | nil=>exact .inl rfl
 | cons y l =>
   rcases h with h | h
   · cases h
   · rw[AQZ] at h;exact .inr h
theorem xO {l:List Int} (h:Ws l) (hc:Cn l) (hne:l≠ []):0<nv l:=by
 induction l with
 | nil=>exact absurd rfl hne
 | cons x l ih =>
   have h1:=F7.1 h;unfold U at h1;rw[CI];cases l with
   | nil =>
     rcases hc with hc | hc
     · cases hc
     · simp at hc;show 0<x+18446744073709551616*0;omega
   | cons y l =>
     have:=ih h1.2 (vS hc) (by simp);omega
theorem AI4 {l:List Int} (h:Ws l) (hc:Cn l):dg (nv l)=l:=by
 induction l with
 | nil=>rfl
 | cons x l ih =>
   have h0:=xO h hc (by simp);have h1:=F7.1 h;have h2:=AN h1.2;unfold U at h1;have e:nv (x::l)=x+18446744073709551616*nv l:=rfl;rw[LN h0,e,show(x+18446744073709551616*nv l)%18446744073709551616=x by omega,show(x+18446744073709551616*nv l)/18446744073709551616=nv l by omega,ih h1.2 (vS hc)]
theorem jm {a b:Int} (ha:0<=a) (hb:0<=b) (h:dg a=dg b):a=b:=by rw[<-Aa ha,h,Aa hb]
theorem LC {n:Int} {m:Nat} (h:n<Wp m):(dg n).length<=m:=by
 induction m generalizing n with
 | zero=>rw[aX (by rw[ML] at h;omega)];simp
 | succ m ih =>
   rcases AN7 0 n with h1 | h1
   · rw[LN h1,ANt]
     rw[DA] at h;have:= @ih (n/18446744073709551616) (by omega);omega
   · rw[aX h1];simp
theorem gD {n:Int} {m:Nat} (h:Wp m<=n):m<(dg n).length:=by
 have hp:=Ej m;have h1:=KB (PS n);rw[Aa (by omega)] at h1;rcases ANs m (dg n).length with h2 | h2
 · exact h2
 · have:=bU h2;omega
theorem Wz {n:Int} (h:0<n):Wp ((dg n).length-1)<=n:=by
 rcases AN7 n (Wp ((dg n).length-1)) with h1 | h1
 · have:=LC h1
   have h2:(dg n).length≠0:=(by rw[LN h];simp);omega
 · exact h1
theorem NZ {n:Int} (h:0<=n):n<Wp (dg n).length:=by
 have h1:=KB (PS n)
 rwa [Aa h] at h1
theorem Bv {x y:Int} (h:x<=y):bl x<=bl y:=by
 have h1:=Gf y;have:=Bw (x:=x) (n:=(bl y).toNat) (by omega);have:=B5 y;omega
theorem WY {x y:Int} (hx:0<=x) (hy:0<=y) {m:Int} (h1:bl x<=m) (h2:bl y<=m):bl (x+y)<=m+1:=by
 have a1:=Gf x;have a2:=Gf y;have n1:=B5 x;have n2:=B5 y;obtain⟨k,rfl⟩:=ANR (show 0<=m by omega);have b1:=Az (a:=(bl x).toNat) (b:=k) (by omega);have b2:=Az (a:=(bl y).toNat) (b:=k) (by omega);have:=Bw (x:=x+y) (n:=k+1) (by rw[ANi];omega);omega
theorem F1 {x y:Int} (hx:0<=x) (hy:0<=y):bl (x*y)<=bl x+bl y:=by
 have a1:=Gf x;have a2:=Gf y;have n1:=B5 x;have n2:=B5 y;have p1:=pow_pos (bl x).toNat;have h:x*y<2^((bl x).toNat+(bl y).toNat):=by
  rw[ANl];rcases(show y=0\/0<y by omega) with rfl | h
  · rw[AOR];exact AOY p1 (pow_pos _)
  · exact Int.mul_lt_mul a1 (by omega) h (by omega)
 have:=Bw h;omega
theorem AW (n:Int):((dg n).length:Int)<=(bl n+63)/64:=by
 have h1:=Gf n;have n1:=B5 n;obtain⟨k,hk⟩:=ANR (show 0<=(bl n+63)/64 by omega);have h2:n<Wp k:=by
  rw[F6];have:=Az (a:=(bl n).toNat) (b:=64*k) (by omega);omega
 have:=LC h2;omega
theorem Bg {n:Int} (h:bl n<=60000000000):Wl (dg n):=⟨PS n,by have:=AW n;omega⟩
theorem Fg {l:List Int} (h:Ws l):bl (nv l)<=64*l.length:=by
 have h1:=KB h;rw[F6] at h1;have:=Bw h1;omega
theorem OR {a b c:Int} (ha:U a) (hb:U b) (hc:U c):DU.f a b c=some ((a+b+c)%18446744073709551616,(a+b+c)/18446744073709551616):=by
 unfold U at ha hb hc;unfold DU.f;simp only[wu];split<;>split<;>(simp only[APR,APE];omega)
theorem LQ {a b c:Int} (ha:U a) (hb:U b) (hc:U c):EE.f a b c=some ((a-b-c)%18446744073709551616,-((a-b-c)/18446744073709551616)):=by
 unfold U at ha hb hc;unfold EE.f;simp only[wu];split<;>split<;>(simp only[APR,APE];omega)
theorem sY (a b:Int):a*b=(a/4294967296)*(b/4294967296)*18446744073709551616+((a%4294967296)*(b/4294967296)+(a/4294967296)*(b%4294967296))*4294967296+(a%4294967296)*(b%4294967296):=by
 have h1:=ANa a 4294967296;have h2:=ANa b 4294967296;generalize a/4294967296=a1 at *;generalize b/4294967296=b1 at *;generalize a%4294967296=a0 at *;generalize b%4294967296=b0 at *;subst h1 h2
 grind
theorem HT {x y m n:Int} (hx0:0<=x) (hx:x<=m) (hy0:0<=y) (hy:y<=n):0<=x*y/\x*y<=m*n :=
 ⟨ANZ hx0 hy0,APs hx hy hy0 (by omega)⟩
theorem IG {a b:Int} (ha:U a) (hb:U b):DF.f a b=some (a*b/18446744073709551616,a*b%18446744073709551616):=by
 unfold U at ha hb;unfold DF.f;have e:=sY a b;have k1:=HT (x:=a%4294967296) (y:=b%4294967296) (m:=4294967295) (n:=4294967295) (by omega) (by omega) (by omega) (by omega);have k2:=HT (x:=a%4294967296) (y:=b/4294967296) (m:=4294967295) (n:=4294967295) (by omega) (by omega) (by omega) (by omega);have k3:=HT (x:=a/4294967296) (y:=b%4294967296) (m:=4294967295) (n:=4294967295) (by omega) (by omega) (by omega) (by omega);have k4:=HT (x:=a/4294967296) (y:=b/4294967296) (m:=4294967295) (n:=4294967295) (by omega) (by omega) (by omega) (by omega);rw[S6 a (by omega) (by omega),S6 b (by omega) (by omega)];generalize a%4294967296*(b%4294967296)=p at *;generalize a%4294967296*(b/4294967296)=q at *;generalize a/4294967296*(b%4294967296)=r at *;generalize a/4294967296*(b/4294967296)=t at *;rw[e];clear e ha hb;simp only[Int.reduceMul] at *;simp only[wu];rw[S6 _ (by omega) (by omega),S6 _ (by omega) (by omega),FU 32 _ _ (by omega) (by omega) (by omega) (by omega) (by omega) (by omega)];simp only[APR,APE];omega
theorem ABb (k:Nat) (x n:Int) (h0:0<=x) (h1:x<2) (hn0:0<=n) (hn1:n<=63):BC.l0 (k+1) x n 0=some (n+bl x):=by
 simp only[BC.l0];rw[if_neg (by omega),AE (n:=x) (by omega) (by omega),AE (by omega) (by omega)];rcases(show x=0\/x=1 by omega) with rfl | rfl
 · rfl
 · have:bl 1=1:=rfl
   rw[this]
theorem Na (k s s':Nat) (hs:0<s) (hs2:s<=32) (hs':s'=s/2)
 (H : ∀x n:Int,0<=x->x<2^s->0<=n->n<=64-s->BC.l0 k x n s'=some (n+bl x))
 (x n:Int) (h0:0<=x) (h1:x<2^(2*s)) (hn0:0<=n) (hn1:n<=64-2*s):BC.l0 (k+1) x n s=some (n+bl x):=by
 have hp:=pow_pos s;have hd:((s:Nat):Int)/2=((s':Nat):Int):=by omega
 simp only[BC.l0];rw[if_pos (by omega),if_pos (by omega),VA _ _ (by omega),ANI,hd];by_cases hq:x/2^s>0
 · have hle:2^s<=x:=by
    rcases AN7 x (2^s) with h | h
    · rw[ANw h0 h] at hq;omega
    · exact h
   rw[if_pos hq,AE (by omega) (by omega),H _ _ (by omega) ?_ (by omega) (by omega),QS hle]
   · congr 1;omega
   · rw[ANm hp,<-ANl]
     rwa [show s+s=2*s by omega]
 · have hlt:x<2^s:=by
    rcases AN7 x (2^s) with h | h
    · exact h
    · have:1<=x/2^s:=by rw[AOD hp];omega
      omega
   rw[if_neg hq,H _ _ h0 hlt hn0 (by omega)]
theorem FC {x:Int} (h:U x):Ev (λk=>BC.f k x) (bl x):=by
 refine⟨7,λk hk=> ?_⟩;obtain⟨k,rfl⟩ : ∃m,k=m+1+1+1+1+1+1+1:=⟨k-7,by omega⟩;have s0 : ∀x n:Int,0<=x->x<2^1->0<=n->n<=64-((1:Nat):Int)->BC.l0 (k+1) x n ((0:Nat):Int)=some (n+bl x):=λx n a b c d=>ABb k x n a (by omega) c (by omega)
 have s1:=Na (k+1) 1 0 (by omega) (by omega) rfl s0;have s2:=Na (k+1+1) 2 1 (by omega) (by omega) rfl (λx n a b c d=>s1 x n a b c (by omega));have s3:=Na (k+1+1+1) 4 2 (by omega) (by omega) rfl (λx n a b c d=>s2 x n a b c (by omega));have s4:=Na (k+1+1+1+1) 8 4 (by omega) (by omega) rfl (λx n a b c d=>s3 x n a b c (by omega));have s5:=Na (k+1+1+1+1+1) 16 8 (by omega) (by omega) rfl (λx n a b c d=>s4 x n a b c (by omega));have s6:=Na (k+1+1+1+1+1+1) 32 16 (by omega) (by omega) rfl (λx n a b c d=>s5 x n a b c (by omega));have:=s6 x 0 h.1 h.2 (by omega) (by omega);unfold BC.f;exact this.trans (by congr 1;omega)
theorem oZ (m:Nat) : ∀x n:Int,0<=x->x.toNat<=m->bl x<=64->0<=n->n+bl x<=1000->Ev (λk=>EF.l0 k x n) (n+bl x):=by
 induction m with
 | zero =>
   intro x n h0 h1 hb hn hn1;obtain rfl:x=0:=by omega
   refine Ev.step (λk=>EF.l0.eq_2 ..) ?_;refine Ev.AP (by omega) ?_;exact Ev.same (by rw[Kn];congr 1;omega)
 | succ m ih =>
   intro x n h0 h1 hb hn hn1;refine Ev.step (λk=>EF.l0.eq_2 ..) ?_;by_cases hx:x>0
   · refine Ev.AK hx ?_
     have e:bl x=bl (x/2)+1\/(x=1/\bl x=1):=by
      rcases(show x=1\/2<=x by omega) with h | h
      · exact .inr ⟨h,by rw[h];rfl⟩
      · exact .inl (QS (s:=1) (by omega))
     have e2:bl x=bl (x/2)+1:=by
      rcases e with e | ⟨rfl,e⟩
      · exact e
      · rfl
     have hn2:=B5 (x/2);rw[AE (by omega) (by omega)];refine(ih (x/2) (n+1) (by omega) (by omega) (by omega) (by omega) (by omega)).dF (by omega)
   · refine Ev.AP hx ?_
     obtain rfl:x=0:=by omega
     exact Ev.same (by rw[Kn];congr 1;omega)
theorem oa {x:Int} (h:U x):Ev (λk=>EF.f k x) (bl x):=by
 have hb:=QJ h.2;have:=oZ x.toNat x 0 h.1 (ANS _) hb (by omega) (by omega);exact this.dF (by omega)
theorem sZ (rest next d d0 d1:Int) (hd:d=d1*4294967296+d0) (hd1:2147483648<=d1) (AM4:d1<4294967296) (um:0<=d0) (AM5:d0<4294967296) (Uu:0<=rest) (vo:rest<d) (hn0:0<=next) (hn1:next<4294967296) (m:Nat) :
 ∀q r:Int,q.toNat<m->q*d1+r=rest->0<=r->r<4294967296->q<=4294967297->(rest*4294967296+next)/d<=q ->
  Ev (λk=>BZ.l0 k rest next d d0 d1 q r) ((rest*4294967296+next)/d,(rest*4294967296+next)%d):=by
 have hdp:0<d:=by omega
 have hN0:0<=(rest*4294967296+next)/d:=ANd (by omega) (by omega);have AM6:(rest*4294967296+next)/d<4294967296:=by rw[ANm hdp];omega
 have hmod:=ANk (rest*4294967296+next) (show d≠0 by omega);have AMi:=ANh (rest*4294967296+next) hdp;have hdm:=ANa (rest*4294967296+next) d;have fin : ∀q:Int,q=(rest*4294967296+next)/d->IntKind.u64.wrap ((IntKind.u64.wrap ((IntKind.u64.wrap (rest*4294967296))+next))-(IntKind.u64.wrap (q*d)))=(rest*4294967296+next)%d:=by
  intro q hq;subst hq;generalize (rest*4294967296+next)/d=q at *;generalize (rest*4294967296+next)%d=r at *;have e:q*d=d*q:=ANY _ _;rw[e];generalize d*q=p at *;simp only[wu];omega
 induction m with
 | zero=>intro q r hm;omega
 | succ m ih =>
   intro q r hm hq h0 h1 h2 h3;have hqn:0<=q:=(by omega);have hp:=HT (x:=q) (y:=d0) (m:=4294967297) (n:=4294967295) hqn h2 um (by omega);have Lh:(q-1)*d0=q*d0-d0:=(by rw[AQj,AOl]);have hs1:(q-1)*d1=q*d1-d1:=(by rw[AQj,AOl]);have hqd:q*d=q*d1*4294967296+q*d0:=(by rw[hd,AOs,<-ANu]);have AME:(q-1)*d=q*d-d:=(by rw[AQj,AOl]);have more:(rest*4294967296+next)/d<q->Ev (λk=>BZ.j1 k rest next d d0 d1 q r true) ((rest*4294967296+next)/d,(rest*4294967296+next)%d):=by
    intro hlt;refine Ev.step (λk=>BZ.j1.eq_2 ..) ?_;refine Ev.AK rfl ?_;have w1:IntKind.u64.wrap (r+d1)=r+d1:=DE (by omega) (by omega);have w2:IntKind.u64.wrap (q-1)=q-1:=DE (by omega) (by omega);rw[w1,w2];by_cases hb:r+d1>4294967295
    · refine Ev.AK hb ?_
      have hle:q-1<=(rest*4294967296+next)/d:=by
       rw[AOD hdp,AME,hqd];have Lg:=HT (x:=q-1) (y:=d0) (m:=4294967296) (n:=4294967295) (by omega) (by omega) um (by omega);generalize (q-1)*d0=p1 at *;generalize q*d0=p at *;generalize q*d1=s at *;omega
      have he:q-1=(rest*4294967296+next)/d:=(by omega);exact Ev.same (by rw[fin _ he,he])
    · refine Ev.AP hb ?_
      exact ih (q-1) (r+d1) (by omega) (by rw[hs1];omega) (by omega) (by omega) (by omega) (by omega)
   refine Ev.step (λk=>BZ.l0.eq_2 ..) ?_;by_cases yC:q>4294967295
   · exact Ev.AK yC (more (by omega))
   · refine Ev.AP yC ?_
     have w1:IntKind.u64.wrap (q*d0)=q*d0:=by
      have hp3:=HT (x:=q) (y:=d0) (m:=4294967295) (n:=4294967295) hqn (by omega) um (by omega);exact DE (by omega) (by omega)
     have w2:Go.bits .or .u64 (IntKind.u64.wrap (r*4294967296)) next=r*4294967296+next:=by
      rw[DE (by omega) (by omega)];exact FU 32 _ _ (by omega) (by omega) (by omega) (by omega) (by omega) (by omega)
     rw[w1,w2];by_cases hc:q*d0>r*4294967296+next
     · rw[decide_eq_true hc]
       refine more ?_;rw[ANm hdp,hqd];generalize q*d0=p at *;generalize q*d1=s at *;omega
     · rw[decide_eq_false hc]
       have hle:q<=(rest*4294967296+next)/d:=by
        rw[AOD hdp,hqd];generalize q*d0=p at *;generalize q*d1=s at *;omega
       have he:q=(rest*4294967296+next)/d:=(by omega);refine Ev.step (λk=>BZ.j1.eq_2 ..) ?_;refine Ev.AP (by decide) ?_;exact Ev.same (by rw[fin _ he,he])
theorem VU {rest next d:Int} (hd:9223372036854775808<=d) (hd':d<18446744073709551616) (Uu:0<=rest) (vo:rest<d) (hn0:0<=next) (hn1:next<4294967296) :
 Ev (λk=>BZ.f k rest next d) ((rest*4294967296+next)/d,(rest*4294967296+next)%d):=by
 have e1:=ANa d 4294967296;have h1:2147483648<=d/4294967296:=by omega
 have h2:d/4294967296<4294967296:=by omega
 refine Ev.AP (by omega) ?_;rw[S6 d (by omega) hd'];have hq0:=ANd Uu (show 0<=d/4294967296 by omega);have m0:=ANk rest (show d/4294967296≠0 by omega);have m1:=ANh rest (show 0<d/4294967296 by omega);have md:=ANa rest (d/4294967296);rw[AN5 Uu,AOH Uu];have AMF:rest/(d/4294967296)<=4294967297:=by
  have:rest/(d/4294967296)<4294967298:=by rw[ANm (by omega)];omega
  omega
 rw[DE hq0 (by omega)];refine sZ rest next d (d%4294967296) (d/4294967296) (by omega) h1 h2 (by omega) (by omega) Uu vo hn0 hn1 ((rest/(d/4294967296)).toNat+1) _ _ (by omega) (by rw[ANY];omega) m0 (by omega) AMF ?_
 have hlt:(rest*4294967296+next)/d<rest/(d/4294967296)+1:=by
  rw[ANm (by omega)];have e2:(rest/(d/4294967296)+1)*d=(d/4294967296*(rest/(d/4294967296))+d/4294967296)*4294967296+(rest/(d/4294967296)+1)*(d%4294967296):=by
   generalize rest/(d/4294967296)=q at *;generalize d/4294967296=d1 at *;generalize d%4294967296=d0 at *;subst e1
   grind
  have e3:0<=(rest/(d/4294967296)+1)*(d%4294967296):=ANZ (by omega) (by omega);rw[e2];generalize (rest/(d/4294967296)+1)*(d%4294967296)=z at *;generalize d/4294967296*(rest/(d/4294967296))=y at *;omega
 omega
theorem AAT {d:Int} (h0:0<d) (h1:d<18446744073709551616):9223372036854775808<=d*2^(64-bl d).toNat/\d*2^(64-bl d).toNat<18446744073709551616:=by
 have a1:=Gf d;have a2:=VE h0;have a3:=QJ h1;have a4:=DY h0;obtain⟨n,hn⟩ : ∃n:Nat,bl d=n+1:=⟨(bl d-1).toNat,by omega⟩;rw[hn] at a1 a2 a3 ⊢;have e1:((n:Int)+1).toNat=n+1:=by omega
 have e2:((n:Int)+1-1).toNat=n:=by omega
 have e3:(64-((n:Int)+1)).toNat=63-n:=by omega
 rw[e1] at a1;rw[e2] at a2;rw[e3];have hp:=pow_pos (63-n);have b1:=ANU a2 (ANL hp);have b2:=AOL a1 hp;rw[<-ANl,show n+(63-n)=63 by omega] at b1;rw[<-ANl,show n+1+(63-n)=64 by omega] at b2;omega
theorem Tv {hi lo d:Int} (hhi:0<=hi) (hlt:hi<d) (hd:d<18446744073709551616) (hlo:U lo) :
 Ev (λk=>Gq.f k hi lo d) ((hi*18446744073709551616+lo)/d,(hi*18446744073709551616+lo)%d,true):=by
 obtain⟨AFI,AFJ⟩:=hlo;refine Ev.AP (by omega) ?_;refine Ev.bind (FC ⟨by omega,hd⟩) ?_;have b1:=DY (x:=d) (by omega);have b2:=QJ hd;have b3:=AAT (d:=d) (by omega) hd;have e64:wrap64 (64-bl d)=64-bl d:=AE (by omega) (by omega);have e63:wrap64 (63-(64-bl d))=bl d-1:=by rw[AE (by omega) (by omega)];omega
 rw[e64,e63];refine Ev.AK (by omega) (Ev.AK (by omega) ?_);obtain⟨s,hs⟩ : ∃s:Nat,64-bl d=s:=⟨(64-bl d).toNat,by omega⟩;have AF2:s<=63:=by omega
 have hs1:bl d-1=((63-s:Nat):Int):=by omega
 rw[hs] at b3 ⊢;rw[hs1];rw[ANI] at b3;have hp:=pow_pos s;have Lg:=pow_pos (64-s);have aj:(2:Int)^s*2^(64-s)=18446744073709551616:=by rw[<-ANl,show s+(64-s)=64 by omega];rfl
 rw[Ke d _ (by omega),Ke hi _ (by omega),Ke lo _ (by omega),VA _ _ (by omega),ANI,ANI];have hdm:d*2^s%18446744073709551616=d*2^s:=ANv (by omega) b3.2;have hh0:0<=hi*2^s:=ANZ hhi (by omega);have hh1:hi*2^s+2^s<=d*2^s:=by
  have:=ANU (show hi+1<=d by omega) (ANL hp);rw[AOw,AOl] at this;exact this
 have hhm:hi*2^s%18446744073709551616=hi*2^s:=ANv hh0 (by omega);have hl2:lo/2/2^(63-s)=lo/2^(64-s):=by
  rw[AN0 (by omega),show(64-s)=(63-s)+1 by omega,ANi,ANY]
 have hl3:0<=lo/2^(64-s):=ANd AFI (by omega);have hl4:lo/2^(64-s)<2^s:=by rw[ANm Lg,aj];exact AFJ
 have hl5:lo*2^s=lo/2^(64-s)*18446744073709551616+lo%2^(64-s)*2^s:=by
  have h:=ANa lo (2^(64-s));generalize lo/2^(64-s)=q at *;generalize lo%2^(64-s)=r at *;rw[<-h,AOw,<-aj]
  grind
 have hl6:0<=lo%2^(64-s):=ANk _ (by omega);have hl7:lo%2^(64-s)<2^(64-s):=ANh _ Lg;have hl8:lo%2^(64-s)*2^s<18446744073709551616:=by
  have:=AOL hl7 hp;rw[ANY (2^(64-s)),aj] at this;exact this
 have hl9:0<=lo%2^(64-s)*2^s:=ANZ hl6 (by omega);have hlm:lo*2^s%18446744073709551616=lo%2^(64-s)*2^s:=by omega
 have hor:Go.bits .or .u64 (hi*2^s) (lo/2^(64-s))=hi*2^s+lo/2^(64-s) :=
  FU s _ _ hh0 (AQV _ _) (by omega) hl3 hl4 (by omega)
 rw[hdm,hhm,hl2,hor,hlm];have hN:(hi*18446744073709551616+lo)*2^s=(hi*2^s+lo/2^(64-s))*18446744073709551616+lo%2^(64-s)*2^s:=by
  have:(hi*18446744073709551616+lo)*2^s=hi*2^s*18446744073709551616+lo*2^s:=by grind
  rw[this,hl5]
  grind
 have hdiv:(hi*18446744073709551616+lo)/d=(hi*18446744073709551616+lo)*2^s/(d*2^s):=(AP7 _ _ hp).symm;have hmod:(hi*18446744073709551616+lo)*2^s%(d*2^s)=(hi*18446744073709551616+lo)%d*2^s:=by
  rw[ANY _ (2^s),ANY d (2^s),AOx _ _ hp,ANY]
 have hm1:=ANk (hi*18446744073709551616+lo) (show d≠0 by omega);have hmm:(hi*18446744073709551616+lo)%d=(hi*18446744073709551616+lo)*2^s%(d*2^s)/2^s:=by rw[hmod,AQD _ (by omega)]
 rw[hdiv,hmm,hN];have hH:0<=hi*2^s+lo/2^(64-s):=by omega
 have hHD:hi*2^s+lo/2^(64-s)<d*2^s:=by omega
 generalize hi*2^s+lo/2^(64-s)=H at *;generalize lo%2^(64-s)*2^s=L at *;generalize d*2^s=D at *;refine Ev.bind (VU b3.1 b3.2 hH hHD (by omega) (by omega)) ?_;have r0:=ANk (H*4294967296+L/4294967296) (show D≠0 by omega);have r1:=ANh (H*4294967296+L/4294967296) (show 0<D by omega);rw[S6 L (by omega) hl8];refine Ev.bind (VU b3.1 b3.2 r0 r1 (by omega) (by omega)) ?_;have q10:0<=(H*4294967296+L/4294967296)/D:=ANd (by omega) (by omega);have q11:(H*4294967296+L/4294967296)/D<4294967296:=by rw[ANm (by omega)];omega
 have md:=ANa (H*4294967296+L/4294967296) D;generalize (H*4294967296+L/4294967296)/D=q1 at *;generalize (H*4294967296+L/4294967296)%D=r at *;have hR:H*18446744073709551616+L=D*(q1*4294967296)+(r*4294967296+L%4294967296):=by
  have:D*(q1*4294967296)=D*q1*4294967296:=by rw[ANu]
  rw[this];generalize D*q1=z at *;omega
 have q00:0<=(r*4294967296+L%4294967296)/D:=ANd (by omega) (by omega);have q01:(r*4294967296+L%4294967296)/D<4294967296:=by rw[ANm (by omega)];omega
 have s0:=ANk (r*4294967296+L%4294967296) (show D≠0 by omega);have s1:=ANh (r*4294967296+L%4294967296) (show 0<D by omega);have eD:(D*(q1*4294967296)+(r*4294967296+L%4294967296))/D=(r*4294967296+L%4294967296)/D+q1*4294967296:=by
  rw[AOy,AOA _ _ (by omega)]
 have eM:(D*(q1*4294967296)+(r*4294967296+L%4294967296))%D=(r*4294967296+L%4294967296)%D:=by
  rw[AOy,AOI]
 rw[hR,eD,eM];have hw:Go.bits .or .u64 (IntKind.u64.wrap (q1*4294967296)) ((r*4294967296+L%4294967296)/D)=(r*4294967296+L%4294967296)/D+q1*4294967296:=by
  rw[DE (by omega) (by omega),FU 32 _ _ (by omega) (by omega) (by omega) (by omega) (by omega) (by omega)];omega
 have hsh:shr .u64 ((r*4294967296+L%4294967296)%D) (s:Int)=(r*4294967296+L%4294967296)%D/2^s:=by rw[VA _ _ (by omega),ANI]
 exact Ev.same (by rw[hw,hsh])
theorem eC {b:Int} (hb:U b) (n:Nat):0<=b/2^n/\b/2^n<=b:=by
 have hp:=pow_pos n;exact⟨ANd hb.1 (by omega),AOK _ hb.1⟩
theorem ADM {l:List Int} {n:Nat} (h:n<l.length) (hr:rd l (n:Int)≠0):Cn (l.take (n+1)):=by
 rw[HQ h];exact .inr (by rw[List.getLast?_append];simpa using hr)
theorem kJ {l:List Int} (h:Ws l) {n:Nat} (hn:n<l.length) (hr:rd l (n:Int)≠0) (he:nv (l.take (n+1))=nv l):dg (nv l)=l.take (n+1):=by
 rw[<-he,AI4 (Dw h _) (ADM hn hr)]
theorem sj {l:List Int} (h:Wl l) (n:Nat):n<=l.length->nv (l.take n)=nv l->Ev (λk=>BR.l0 k l n) ((dg (nv l)).length:Int):=by
 obtain⟨hw,hl⟩:=h;induction n with
 | zero =>
   intro hn he;refine Ev.step (λk=>BR.l0.eq_2 ..) ?_;refine Ev.AP (by omega) (Ev.same ?_);rw[<-he];rfl
 | succ n ih =>
   intro hn he;have e:wrap64 (((n+1:Nat):Int)-1)=(n:Int):=(by rw[AE (by omega) (by omega)];omega);refine Ev.step (λk=>BR.l0.eq_2 ..) ?_;refine Ev.AK (by omega) ?_;rw[e];refine Ev.AK (by omega) (Ev.AK (by omega) ?_);by_cases hr:rd l (n:Int)=0
   · refine Ev.AK hr (ih (by omega) ?_)
     rw[<-he,Bf (by omega),hr,AOR,AOS]
   · refine Ev.AP hr (Ev.same ?_)
     rw[kJ hw (by omega) hr he,ANO,ANb (by omega)]
theorem Je {l:List Int} (h:Wl l):Ev (λk=>BR.f k l) ((dg (nv l)).length:Int) :=
 sj h l.length (ANS _) (by rw[AOT])
theorem W0 {l:List Int} (h:Ws l) : ∃r,l=dg (nv l)++r/\nv r=0:=by
 have key : ∀n,n<=l.length->nv (l.take n)=nv l->l.take (dg (nv l)).length=dg (nv l):=by
  intro n;induction n with
  | zero=>intro _ he;rw[<-he];rfl
  | succ n ih =>
    intro hn he;by_cases hr:rd l (n:Int)=0
    · refine ih (by omega) ?_
      rw[<-he,Bf (by omega),hr,AOR,AOS]
    · rw[kJ h (by omega) hr he,ANO,ANb (by omega)]
 have h1:=key l.length (ANS _) (by rw[AOT]);refine⟨l.drop (dg (nv l)).length, ?_, ?_⟩
 · conv=>rhs;lhs;rw[<-h1]
   rw[AOm]
 · have h2:=VS l (dg (nv l)).length
   rw[h1,Aa (AN h)] at h2;have h3:=Ej (min (dg (nv l)).length l.length);have h4:Wp (min (dg (nv l)).length l.length)*nv (l.drop (dg (nv l)).length)=0:=(by omega);rcases AQB.1 h4 with h5 | h5
   · omega
   · exact h5
theorem E6 {l:List Int} (h:Ws l):(dg (nv l)).length<=l.length:=LC (KB h)
theorem kK {l:List Int} (h:Ws l):l.take (dg (nv l)).length=dg (nv l):=by
 obtain⟨r,hr,_⟩:=W0 h
 conv=>lhs;rhs;rw[hr]
 simp
theorem AI5 {l:List Int} (h:Ws l) (i:Int):rd l i=rd (dg (nv l)) i:=by
 obtain⟨r,hr,hz⟩:=W0 h;have hrz : ∀(r:List Int),Ws r->nv r=0-> ∀j,r.getD j 0=0:=by
  intro r;induction r with
  | nil=>intro _ _ j;simp
  | cons x r ih =>
    intro hw h0 j;have h1:=F7.1 hw;have h2:=AN h1.2;unfold U at h1;rw[CI] at h0;cases j with
    | zero=>simp;omega
    | succ j=>simpa using ih h1.2 (by omega) j
 have hwr:Ws r:=(Wy.1 (hr▸h)).2;unfold rd
 conv=>lhs;rw[hr]
 rw[ANJ,ANJ];rcases ANs i.toNat (dg (nv l)).length with hi | hi
 · rw[AN8 hi]
 · rw[AOG hi,ANq hi,<-ANJ,hrz r hwr hz]
   rfl
theorem Ch {l:List Int} (h:Wl l):Ev (λk=>Ah.f k l) (dg (nv l)):=by
 obtain⟨hw,hl⟩:=h;have hd:=E6 hw;refine Ev.AX rfl ?_;refine Ev.bind (Je ⟨hw,hl⟩) ?_;rw[ANI,kK hw];refine Ev.AK (by omega) (Ev.AK (by omega) (Ev.AK (by rw[AP9];omega) ?_));exact Ev.same (by rw[AO9])
theorem QT {x:Int} (h:U x):Ev (λk=>Iz.f k x) (dg x):=by
 have:=Ch (l:= [x]) ⟨JZ h,by simp⟩;rw[Is] at this;exact Ev.bind this (Ev.same rfl)
theorem Xv {l:List Int} (h:Wl l):G9.f l=some (decide (dg (nv l)=l)):=by
 obtain⟨hw,hl⟩:=h;unfold G9.f;by_cases h0:(l.length:Int)=0
 · rw[if_pos h0]
   have:l= []:=AN4 (by omega);subst this;rfl
 · have e:wrap64 ((l.length:Int)-1)=((l.length-1:Nat):Int):=by rw[AE (by omega) (by omega)];omega
   have hln:l.length-1+1=l.length:=(by omega);rw[if_neg h0,e,if_pos (by omega),if_pos (by omega)]
   congr 1
   by_cases hr:rd l ((l.length-1:Nat):Int)=0
   · rw[hr]
     have hne:dg (nv l)≠l:=by
      intro hd;have hc:=AI3 (AN hw);rw[hd] at hc;have h1:=HQ (l:=l) (i:=l.length-1) (by omega);rw[hln,AOT,hr] at h1;rcases hc with hc | hc
      · rw[hc] at h0;exact h0 rfl
      · rw[h1] at hc;simp at hc
     simp[hne]
   · have:=kJ hw (n:=l.length-1) (by omega) hr (by rw[hln,AOT])
     rw[hln,AOT] at this;simp[this,hr]
theorem ADN {n:Int} (h:U n):dg n=if n=0 then[] else[n]:=by
 unfold U at h;split
 · rename_i h0;rw[h0];rfl
 · rw[LN (by omega),show n/18446744073709551616=0 by omega,G8,show n%18446744073709551616=n by omega]
theorem C5 {n:Int} (h:0<=n):(dg n).length=0↔n=0:=by
 constructor
 · intro h1
   have:=Aa h;rw[AN4 h1] at this;exact this.symm
 · intro h1;rw[h1];rfl
theorem Tr {l:List Int} (h:Wl l):Ev (λk=>Hw.f k l) (if nv l<18446744073709551616 then(nv l,true) else(0,false)):=by
 obtain⟨hw,hl⟩:=h;have hn:=AN hw;refine Ev.bind (Je ⟨hw,hl⟩) ?_;by_cases h0:nv l=0
 · have h1:(dg (nv l)).length=0:=(C5 hn).2 h0
   refine Ev.AK (by omega) (Ev.same ?_);rw[h0,if_pos (by omega)]
 · have h1:(dg (nv l)).length≠0:=λh=>h0 ((C5 hn).1 h)
   refine Ev.AP (by omega) ?_;by_cases h2:nv l<18446744073709551616
   · have hd:=ADN (n:=nv l) ⟨hn,h2⟩
     rw[if_neg h0] at hd;rw[if_pos h2];refine Ev.AK (by rw[hd];rfl) (Ev.AK ?_ (Ev.same ?_))
     · have:=E6 hw;rw[hd] at this;simp at this;omega
     · rw[AI5 hw,hd];rfl
   · rw[if_neg h2]
     refine Ev.AP ?_ (Ev.same rfl);have:=gD (n:=nv l) (m:=1) (by show(18446744073709551616:Int)^1<=_;omega);omega
def GD (x y:Int):Int:=if x<y then -1 else if y<x then 1 else 0
theorem ZN {x y:Int} (h:x<y):GD x y= -1:=by unfold GD;rw[if_pos h]
theorem kL {x y:Int} (h:y<x):GD x y=1:=by unfold GD;rw[if_neg (by omega),if_pos h]
theorem oc {x y:Int} :GD x y<0↔x<y:=by unfold GD;split<;>(try split)<;>omega
theorem vT {a b:List Int} (ha:Ws a) (hb:Ws b) {i:Nat} (h1:i<a.length) (h2:i<b.length) (hlt:rd a (i:Int)<rd b (i:Int)):nv (a.take (i+1))<nv (b.take (i+1)):=by
 rw[Bf h1,Bf h2];have c1:=KB (Dw ha i);have c2:=AN (Dw hb i);rw[ANO,ANb (by omega)] at c1;have c3:=Ej i;have c4:=ANe (show rd a (i:Int)+1<=rd b (i:Int) by omega) (ANL c3);rw[AOs,ANr] at c4;omega
theorem xP {a b:List Int} (ha:Wl a) (hb:Wl b) (n:Nat):n<=a.length->n<=b.length->Ev (λk=>Dv.l0 k a b ((n:Int)-1)) (GD (nv (a.take n)) (nv (b.take n))):=by
 obtain⟨haw,hal⟩:=ha;obtain⟨hbw,hbl⟩:=hb;induction n with
 | zero =>
   intro _ _;refine Ev.step (λk=>Dv.l0.eq_2 ..) ?_;exact Ev.AP (by omega) (Ev.same rfl)
 | succ n ih =>
   intro h1 h2;have e:((n+1:Nat):Int)-1=(n:Int):=(by omega);rw[e];refine Ev.step (λk=>Dv.l0.eq_2 ..) ?_;refine Ev.AK (by omega) (Ev.AK (by omega) (Ev.AK (by omega) (Ev.AK (by omega) ?_)));by_cases c1:rd a (n:Int)<rd b (n:Int)
   · exact Ev.AK c1 (Ev.same (by rw[ZN (vT haw hbw (by omega) (by omega) c1)]))
   · refine Ev.AP c1 ?_
     by_cases c2:rd a (n:Int)>rd b (n:Int)
     · exact Ev.AK c2 (Ev.same (by rw[kL (vT hbw haw (by omega) (by omega) c2)]))
     · refine Ev.AP c2 ?_
       rw[AE (by omega) (by omega)];have e2:rd a (n:Int)=rd b (n:Int):=(by omega);refine(ih (by omega) (by omega)).dF ?_;rw[Bf (by omega),Bf (by omega),e2];unfold GD;split<;>split<;>first | omega | (split<;>first | omega | (split<;>omega))
theorem T4 {l:List Int} (h:Ws l):nv (l.take (dg (nv l)).length)=nv l:=by rw[kK h,Aa (AN h)]
theorem gF {x y:Int} (hx:0<=x) (hy:0<=y) (h:(dg x).length<(dg y).length):x<y:=by
 have h1:=NZ hx;have h2:=Wz (n:=y) (by
  rcases(show y=0\/0<y by omega) with h0 | h0
  · rw[h0,G8] at h;simp at h
  · exact h0)
 have:=bU (show(dg x).length<=(dg y).length-1 by omega);omega
theorem Ry {a b:List Int} (ha:Wl a) (hb:Wl b):Ev (λk=>Dv.f k a b) (GD (nv a) (nv b)):=by
 have hla:=E6 ha.1;have hlb:=E6 hb.1;refine Ev.bind (Je ha) (Ev.bind (Je hb) ?_);by_cases h:(dg (nv a)).length=(dg (nv b)).length
 · refine Ev.AK (by omega) ?_
   have hl:=ha.2;rw[AE (by omega) (by omega)];refine(xP ha hb (dg (nv a)).length hla (by omega)).dF ?_;rw[T4 ha.1]
   conv=>lhs;rhs;rw[h]
   rw[T4 hb.1]
 · refine Ev.AP (by omega) ?_
   rcases ANs (dg (nv a)).length (dg (nv b)).length with h1 | h1
   · exact Ev.AK (by omega) (Ev.same (by rw[ZN (gF (AN ha.1) (AN hb.1) h1)]))
   · exact Ev.AP (by omega) (Ev.same (by rw[kL (gF (AN hb.1) (AN ha.1) (by omega))]))
theorem IB {b:List Int} {i:Nat} (h:b.length<=i):b.take (i+1)=b.take i:=by rw[ANW (by omega),ANW (by omega)]
theorem Jv {a:List Int} {x:Int} (ha:Ws a) (hx:U x):Ws (a++ [x]):=Wy.2 ⟨ha,JZ hx⟩
theorem oh {out:List Int} {over:Int} (h:Wl (out++ [over])) (hl:out.length<=999999999):Ev (λk=>if out.length<17592186044416 then((Ah.f k (out++ [over])).bind λt183=>(some t183)) else(none)) (dg (nv out+Wp out.length*over)):=by
 refine Ev.AK (by omega) ?_;rw[<-HN];exact Ev.bind (Ch h) (Ev.same rfl)
theorem bZ {a b:List Int} (ha:Wl a) (hb:Wl b) (hlb:b.length<=a.length) (hla:a.length<=999999999) (d:Nat) : ∀(i:Nat) (out:List Int) (over:Int),i+d=a.length->out.length=i->Ws out->0<=over->over<=1->nv out+Wp i*over=nv (a.take i)+nv (b.take i) ->
 Ev (λk=>BH.l0 k b out over a (a.length:Int) i) (dg (nv a+nv b)):=by
 induction d with
 | zero =>
   intro i out over hi hlo Nz h0 h1 he;refine Ev.step (λk=>BH.l0.eq_2 ..) ?_;refine Ev.AP (by omega) ?_;rw[ANW (by omega),ANW (by omega)] at he;rw[<-he,<-hlo];exact oh ⟨Jv Nz (by unfold U;omega),by simp;omega⟩ (by omega)
 | succ d ih =>
   intro i out over hi hlo Nz h0 h1 he;have hx:=Gt ha.1 (i:Int);refine Ev.step (λk=>BH.l0.eq_2 ..) ?_;refine Ev.AK (by omega) (Ev.AK (by omega) (Ev.AK (by omega) ?_));have fin : ∀y:Int,U y->nv (b.take (i+1))=nv (b.take i)+Wp i*y->Ev (λk=>(DU.f (rd a (i:Int)) y over).bind λom=>(if out.length<17592186044416 then(BH.l0 k b (out++ [om.1]) om.2 a (a.length:Int) (wrap64 ((i:Int)+1))) else(none))) (dg (nv a+nv b)):=by
    intro y hy hby;refine Ev.AX (OR hx hy (by unfold U;omega)) ?_;dsimp only;refine Ev.AK (by omega) ?_;have e:wrap64 ((i:Int)+1)=((i+1:Nat):Int):=(by rw[AE (by omega) (by omega)];omega);rw[e];unfold U at hx hy;refine ih (i+1) _ _ (by omega) (by simp;omega) (Jv Nz (by unfold U;omega)) (by omega) (by omega) ?_;rw[HN,hlo,Bf (l:=a) (by omega),hby,DA];have hs:(rd a (i:Int)+y+over)=18446744073709551616*((rd a (i:Int)+y+over)/18446744073709551616)+(rd a (i:Int)+y+over)%18446744073709551616:=by omega
    generalize (rd a (i:Int)+y+over)/18446744073709551616=q at *;generalize (rd a (i:Int)+y+over)%18446744073709551616=r at *;generalize rd a (i:Int)=x at *;have:over=18446744073709551616*q+r-x-y:=(by omega);rw[this] at he
    grind
   by_cases hib:(i:Int)<(b.length:Int)
   · exact Ev.AK hib (fin _ (Gt hb.1 _) (Bf (by omega)))
   · refine Ev.AP hib (fin 0 (by unfold U;omega) ?_)
     rw[IB (by omega),AOR,AOS]
theorem oo (a b out:List Int) : ∀(k:Nat) (over len i:Int),BH.l1 k b out over a len i=BH.l0 k b out over a len i:=by
 intro k;induction k generalizing out with
 | zero=>intros;rfl
 | succ k ih=>intros;simp only[BH.l0,BH.l1,ih]
theorem Wh {a b:List Int} (ha:Wl a) (hb:Wl b) (hla:a.length<=999999999) (hlb:b.length<=999999999):Ev (λk=>BH.f k a b) (dg (nv a+nv b)):=by
 by_cases h:(a.length:Int)<(b.length:Int)
 · refine Ev.AK h ?_
   rw[AE (by omega) (by omega)];refine Ev.AK (by omega) (Ev.AK (by omega) ?_);rw[AOy];exact bZ hb ha (by omega) hlb b.length 0 [] 0 (by omega) rfl Hj (by omega) (by omega) rfl
 · refine Ev.AP h ?_
   rw[AE (by omega) (by omega)];refine Ev.AK (by omega) (Ev.AK (by omega) ?_);exact Ev.congr (λk=>oo ..) (bZ ha hb (by omega) hla a.length 0 [] 0 (by omega) rfl Hj (by omega) (by omega) rfl)
theorem sk {a b:List Int} (ha:Wl a) (hb:Wl b) (hge:nv b<=nv a) (d:Nat) : ∀(i:Nat) (out:List Int) (under:Int),i+d=a.length->out.length=i->Ws out->0<=under->under<=1->nv out-Wp i*under=nv (a.take i)-nv (b.take i) ->
 Ev (λk=>C9.l0 k b out under a (a.length:Int) i) (dg (nv a-nv b),true):=by
 have hal:=ha.2;induction d with
 | zero =>
   intro i out under hi hlo Nz h0 h1 he;refine Ev.step (λk=>C9.l0.eq_2 ..) ?_;refine Ev.AP (by omega) ?_;have hi2:i=a.length:=(by omega);subst hi2;rw[AOT] at he;have l6:=VS b a.length;have hn1:=AN Nz;have hn2:=KB Nz;rw[hlo] at hn2;have hn3:=AN (Dw hb.1 a.length);have hn4:=AN (MM hb.1 a.length);have hn5:=KB ha.1;have hp:=Ej a.length;have hz:Wp (min a.length b.length)*nv (b.drop a.length)=0:=by
    rcases ANs a.length b.length with hlt | hgt
    · rw[ANb (by omega)] at l6 ⊢
      rcases(show nv (b.drop a.length)=0\/1<=nv (b.drop a.length) by omega) with h | h
      · rw[h,AOR]
      · have:=ANe h (ANL hp)
        omega
    · rw[ANn hgt];simp[nv]
   have hu:under=0:=by
    rcases(show under=0\/under=1 by omega) with h | h
    · exact h
    · subst h;omega
   subst hu;have e:nv a-nv b=nv out:=(by omega);rw[e];exact Ev.bind (Ch ⟨Nz,by omega⟩) (Ev.same rfl)
 | succ d ih =>
   intro i out under hi hlo Nz h0 h1 he;have hx:=Gt ha.1 (i:Int);refine Ev.step (λk=>C9.l0.eq_2 ..) ?_;refine Ev.AK (by omega) (Ev.AK (by omega) (Ev.AK (by omega) ?_));have fin : ∀y:Int,U y->nv (b.take (i+1))=nv (b.take i)+Wp i*y->Ev (λk=>(EE.f (rd a (i:Int)) y under).bind λom=>(if out.length<17592186044416 then(C9.l0 k b (out++ [om.1]) om.2 a (a.length:Int) (wrap64 ((i:Int)+1))) else(none))) (dg (nv a-nv b),true):=by
    intro y hy hby;refine Ev.AX (LQ hx hy (by unfold U;omega)) ?_;dsimp only;refine Ev.AK (by omega) ?_;have e:wrap64 ((i:Int)+1)=((i+1:Nat):Int):=(by rw[AE (by omega) (by omega)];omega);rw[e];have hna:=Bf (l:=a) (i:=i) (by omega);unfold U at hx hy;have hs:(rd a (i:Int)-y-under)=18446744073709551616*((rd a (i:Int)-y-under)/18446744073709551616)+(rd a (i:Int)-y-under)%18446744073709551616:=by omega
    have Uu:0<=(rd a (i:Int)-y-under)%18446744073709551616:=(by omega);have vo:(rd a (i:Int)-y-under)%18446744073709551616<18446744073709551616:=(by omega);have hq0:0<= -((rd a (i:Int)-y-under)/18446744073709551616):=(by omega);have yC : -((rd a (i:Int)-y-under)/18446744073709551616)<=1:=(by omega);generalize (rd a (i:Int)-y-under)/18446744073709551616=q at *;generalize (rd a (i:Int)-y-under)%18446744073709551616=r at *;generalize rd a (i:Int)=x at *;have hl1:(out++ [r]).length=i+1:=(by rw[ANT,hlo];rfl);refine ih (i+1) (out++ [r]) (-q) (by omega) hl1 (Jv Nz ⟨Uu,vo⟩) hq0 yC ?_;rw[HN,hlo,hna,hby,DA];have:under=x-y-18446744073709551616*q-r:=(by omega);rw[this] at he
    grind
   by_cases hib:(i:Int)<(b.length:Int)
   · exact Ev.AK hib (fin _ (Gt hb.1 _) (Bf (by omega)))
   · refine Ev.AP hib (fin 0 (by unfold U;omega) ?_)
     rw[IB (by omega),AOR,AOS]
theorem W4 {a b:List Int} (ha:Wl a) (hb:Wl b) (hge:nv b<=nv a):Ev (λk=>C9.f k a b) (dg (nv a-nv b),true):=by
 have hal:=ha.2;refine Ev.bind (Ry ha hb) ?_;refine Ev.AP (by rw[oc];omega) (Ev.AK (by omega) (Ev.AK (by omega) ?_));exact sk ha hb hge a.length 0 [] 0 (by omega) rfl Hj (by omega) (by omega) rfl
theorem sr {a b:List Int} (ha:Wl a) (hb:Wl b) (hlt:nv a<nv b):Ev (λk=>C9.f k a b) ([],false):=by
 refine Ev.bind (Ry ha hb) ?_;exact Ev.AK (by rw[oc];omega) (Ev.same rfl)
structure Hd (p:Prop):Prop where mk::(out:p)
theorem Xw {i m:Nat} (h:m<=i):i+1-m=i-m+1:=by omega
def nu (n:Int):Nat:=(mn (mx n 0) 65536).toNat
theorem ABc (n:Int):nu n<=65536:=by unfold nu mn;split<;>omega
theorem Tt {n:Int} (h0:0<=n) (h1:n<=65536):nu n=n.toNat:=by unfold nu mn mx;split<;>split<;>omega
theorem su (n:Int):mn (mx n 0) 65536=(nu n:Int):=by unfold nu mn mx;split<;>split<;>omega
theorem mul_mod_left (x y:Int):x%18446744073709551616*y%18446744073709551616=x*y%18446744073709551616:=by
 rw[Int.mul_emod,Int.emod_emod_of_dvd _ (Int.dvd_refl _),<-Int.mul_emod]
theorem ZO {b:Nat} (h:b<=64):(2:Int)^(64-b)*2^b=18446744073709551616:=by
 rw[<-ANl,show 64-b+b=64 by omega];rfl
theorem jR (z:Int) {b:Nat} (h:b<=64):z*2^(64-b)%18446744073709551616=2^(64-b)*(z%2^b):=by
 rw[<-ZO h,ANY z,AOx _ _ (pow_pos _)]
theorem uy (z:Int) {b:Nat} (h:b<=64):z*2^b%18446744073709551616=2^b*(z%2^(64-b)):=by
 have:=jR z (b:=64-b) (by omega)
 rwa [show 64-(64-b)=b by omega] at this
theorem ot (x:Int) {b:Nat} (h:b<=63):x/2/2^(63-b)=x/2^(64-b):=by
 rw[AN0 (by omega),show 64-b=(63-b)+1 by omega,ANi,ANY]
theorem bf {x c:Int} (hx:U x) {b:Nat} (hb:b<=63) (hc0:0<=c) (zk:c<2^b) :
 Go.bits .or .u64 (IntKind.u64.wrap (x*2^b)) c=x*2^b%18446744073709551616+c/\x*2^b=x/2^(64-b)*18446744073709551616+x*2^b%18446744073709551616/\0<=x/2^(64-b)/\x/2^(64-b)<2^b/\U (x*2^b%18446744073709551616+c):=by
 obtain⟨hx0,hx1⟩:=hx;have hp:=pow_pos b;have Lg:=pow_pos (64-b);have aj:=ZO (b:=b) (by omega);have AMG:(2:Int)^b<=2^63:=Az hb;have e1:=uy x (b:=b) (by omega);have m0:=ANk x (show(2:Int)^(64-b)≠0 by omega);have m1:=ANh x Lg;have hdm:=ANa x (2^(64-b));have q0:=ANd hx0 (show(0:Int)<=2^(64-b) by omega);have q1:x/2^(64-b)<2^b:=by rw[ANm Lg,ANY,aj];exact hx1
 have hle:2^b*(x%2^(64-b))+2^b<=18446744073709551616:=by
  rw[<-aj,ANY (2^(64-b))];have:=ANe (show x%2^(64-b)+1<=2^(64-b) by omega) (ANL hp);rw[AOs,ANr] at this;exact this
 have hnn:0<=2^b*(x%2^(64-b)):=ANZ (by omega) m0;refine⟨?_, ?_,q0,q1, ?_⟩
 · rw[wu,e1,FU b _ _ hnn (AOh _ _) (by omega) hc0 zk (by omega)]
 · rw[e1,<-aj]
   generalize x/2^(64-b)=q at *;generalize x%2^(64-b)=r at *;generalize (2:Int)^(64-b)=P at *;generalize (2:Int)^b=Q at *;rw[<-hdm]
   grind
 · rw[e1];unfold U;omega
theorem xQ {a:List Int} (ha:Wl a) {b m:Nat} (hb:b<=63) (hm:m<=100000) (hla:a.length<=900000000) (d:Nat) : ∀(i:Nat) (out:List Int) (c:Int),i+d=a.length->out.length=m+i->Ws out->0<=c->c<2^b->nv out+Wp (m+i)*c=Wp m*(nv (a.take i)*2^b) ->
 Ev (λk=>Bp.l0 k (b:Int) out c a (a.length:Int) i) (dg (Wp m*(nv a*2^b))):=by
 have AMG:(2:Int)^b<=2^63:=Az hb;induction d with
 | zero =>
   intro i out c hi hlo Nz h0 h1 he;refine Ev.step (λk=>Bp.l0.eq_2 ..) ?_;refine Ev.AP (by omega) (Ev.AK (by omega) ?_);rw[ANW (by omega)] at he;rw[<-he,<-hlo,<-HN];exact Ev.bind (Ch ⟨Jv Nz (by unfold U;omega),by simp;omega⟩) (Ev.same rfl)
 | succ d ih =>
   intro i out c hi hlo Nz h0 h1 he;have hx:=Gt ha.1 (i:Int);obtain⟨w1,w2,w3,w4,w5⟩:=bf hx hb h0 h1;refine Ev.step (λk=>Bp.l0.eq_2 ..) ?_;refine Ev.AK (by omega) (Ev.AK (by omega) (Ev.AK (by omega) (Ev.AK (by omega) ?_)));have e:wrap64 ((i:Int)+1)=((i+1:Nat):Int):=(by rw[AE (by omega) (by omega)];omega);have e63:(63-(b:Int)).toNat=63-b:=(by omega);rw[e,ANI,e63,w1,ot _ hb];refine ih (i+1) _ _ (by omega) (by rw[ANT,hlo];rfl) (Jv Nz w5) w3 w4 ?_;rw[HN,hlo,Bf (by omega),show m+(i+1)=m+i+1 by omega,DA];have hwa:=Qo m i;generalize rd a (i:Int)/2^(64-b)=q at *;generalize rd a (i:Int)*2^b%18446744073709551616=r at *;rw[AOw,AOs (Wp m),<-he];have:Wp i*rd a (i:Int)*2^b=Wp i*(q*18446744073709551616+r):=(by rw[ANu,w2]);rw[this,hwa]
   grind
theorem Rp {a:List Int} (ha:Wl a) (hla:a.length<=900000000) (n:Int):Ev (λk=>Bp.f k a n) (dg (nv a*2^nu n)):=by
 have hs:=ABc n;obtain⟨b,m,hb,hm,hbm⟩ : ∃b m:Nat,b<=63/\m<=1024/\nu n=64*m+b:=⟨nu n%64,nu n/64,by omega,by omega,by omega⟩;have e1:mn (mx n 0) 65536/64=(m:Int):=by rw[su];omega
 have e2:mn (mx n 0) 65536%64=(b:Int):=by rw[su];omega
 unfold Bp.f;rw[e1,e2];have e3:wrap64 (wrap64 ((m:Int)+(a.length:Int))+1)=(m:Int)+(a.length:Int)+1:=by
  rw[AE (n:=(m:Int)+(a.length:Int)) (by omega) (by omega),AE (by omega) (by omega)]
 rw[e3];refine Ev.AK (by omega) (Ev.AK (by omega) (Ev.AK (by omega) ?_));rw[ANI];refine(xQ (m:=m) ha hb (by omega) hla a.length 0 (List.replicate m 0) 0 (by omega) (by simp) (VR _) (by omega) (pow_pos b) ?_).dF ?_
 · rw[Qp];simp[nv]
 · rw[hbm,ANl,<-F6]
   congr 1
   grind
theorem bh {y z T:Int} (hy:U y) (hz:U z) {b:Nat} (hb:b<=63) (hT : ∃t,T=z+18446744073709551616*t) :
 Go.bits .or .u64 (y/2^b) (IntKind.u64.wrap (IntKind.u64.wrap (z*2)*2^(63-b)))=y/2^b+2^(64-b)*(z%2^b)/\U (y/2^b+2^(64-b)*(z%2^b))/\(y+18446744073709551616*T)/2^b=y/2^b+2^(64-b)*(z%2^b)+18446744073709551616*(T/2^b):=by
 obtain⟨hy0,hy1⟩:=hy;obtain⟨qT,hz1⟩:=hz;have hp:=pow_pos b;have Lg:=pow_pos (64-b);have aj:=ZO (b:=b) (by omega);have m0:=ANk z (show(2:Int)^b≠0 by omega);have m1:=ANh z hp;have q0:=ANd hy0 (show(0:Int)<=2^b by omega);have q1:y/2^b<2^(64-b):=by rw[ANm hp,aj];exact hy1
 have hle:2^(64-b)*(z%2^b)+2^(64-b)<=18446744073709551616:=by
  rw[<-aj];have:=ANe (show z%2^b+1<=2^b by omega) (ANL Lg);rw[AOs,ANr] at this;exact this
 have hnn:0<=2^(64-b)*(z%2^b):=ANZ (by omega) m0;have hsh:IntKind.u64.wrap (IntKind.u64.wrap (z*2)*2^(63-b))=2^(64-b)*(z%2^b):=by
  rw[wu,wu,mul_mod_left,<-jR z (b:=b) (by omega),ANu,show(2:Int)*2^(63-b)=2^(64-b) by rw[show 64-b=(63-b)+1 by omega,ANi,ANY]]
 refine⟨?_,by unfold U;omega, ?_⟩
 · rw[hsh,or_comm _ _ q0 (by omega) hnn (by omega),FU (64-b) _ _ hnn (AOh _ _) (by omega) q0 q1 (by omega)]
   omega
 · obtain⟨t,ht⟩:=hT
   have hTm:T%2^b=z%2^b:=by
    rw[ht,<-aj,show z+2^(64-b)*2^b*t=z+2^b*(2^(64-b)*t) by grind,AOI]
   have hTd:=ANa T (2^b);have e:y+18446744073709551616*T=y+2^b*(2^(64-b)*T):=(by rw[<-aj];grind);rw[e,AOA _ _ (by omega)]
   conv=>lhs;rhs;rw[<-hTd,hTm]
   rw[<-aj]
   grind
theorem gG {y T:Int} (hy:U y) {b:Nat} (hb:b<=63) (hT:T=0):Go.bits .or .u64 (y/2^b) 0=y/2^b/\U (y/2^b)/\(y+18446744073709551616*T)/2^b=y/2^b+18446744073709551616*(T/2^b):=by
 have h:=bh (T:=0) hy (z:=0) (by unfold U;omega) hb ⟨0,by omega⟩;simp only[AOd,Int.zero_emod,AOR,AOS,AQa] at h;subst hT;refine⟨?_,h.2.1,by simp⟩;have h1:=h.1;rw[wu,wu] at h1;simpa using h1
theorem IC {l:List Int} {i:Nat} (h:i<l.length):l.drop i=rd l (i:Int)::l.drop (i+1):=by
 rw[AO6 h];unfold rd;rw[ANI,ANJ,ANX h];rfl
theorem xR {a:List Int} (ha:Wl a) {b m:Nat} (hb:b<=63) (d:Nat) : ∀(i:Nat) (out:List Int),i+d=a.length->m<=i->out.length=i-m->Ws out->nv out+Wp (i-m)*(nv (a.drop i)/2^b)=nv (a.drop m)/2^b ->
 Ev (λk=>Df.l0 k a (b:Int) out i) (dg (nv (a.drop m)/2^b)):=by
 have hal:=ha.2;induction d with
 | zero =>
   intro i out hi yB hlo Nz he;refine Ev.step (λk=>Df.l0.eq_2 ..) ?_;refine Ev.AP (by omega) ?_;rw[ANn (show a.length<=i by omega)] at he;simp[nv] at he;rw[<-he];exact Ev.bind (Ch ⟨Nz,by omega⟩) (Ev.same rfl)
 | succ d ih =>
   intro i out hi yB hlo Nz he;have hx:=Gt ha.1 (i:Int);rw[IC (by omega),CI] at he;have HE:=Hd.mk he;clear he;have hsub:=Xw yB;have e:wrap64 ((i:Int)+1)=((i+1:Nat):Int):=(by rw[AE (by omega) (by omega)];omega);have e63:(63-(b:Int)).toNat=63-b:=(by omega);refine Ev.step (λk=>Df.l0.eq_2 ..) ?_;refine Ev.AK (by omega) ?_;rw[e,ANI,e63];by_cases hn:((i+1:Nat):Int)<(a.length:Int)
   · refine Ev.AK hn (Ev.AK (by omega) (Ev.AK (by omega) (Ev.AK (by omega) ?_)))
     obtain⟨w1,w2,w3'⟩:=bh (T:=nv (a.drop (i+1))) hx (Gt ha.1 ((i+1:Nat):Int)) hb ⟨nv (a.drop (i+1+1)),by rw[IC (show i+1<a.length by omega),CI]⟩;have W3:=Hd.mk w3';clear w3';rw[w1];refine ih (i+1) _ (by omega) (by omega) (by rw[ANT,hlo,hsub];rfl) (Jv Nz w2) ?_;have he:=HE.out;rw[W3.out] at he;rw[HN,hlo,hsub,DA,<-he]
     grind
   · refine Ev.AP hn (Ev.AK (by omega) (Ev.AK (by omega) ?_))
     have hz:nv (a.drop (i+1))=0:=(by rw[ANn (by omega)];rfl);obtain⟨w1,w2,w3'⟩:=gG hx hb hz;have W3:=Hd.mk w3';clear w3';rw[w1];refine ih (i+1) _ (by omega) (by omega) (by rw[ANT,hlo,hsub];rfl) (Jv Nz w2) ?_;have he:=HE.out;rw[W3.out] at he;rw[HN,hlo,hsub,DA,<-he]
     grind
theorem Nb {a:List Int} (ha:Ws a) (m:Nat):nv a/Wp m=nv (a.drop m):=by
 have h1:=VS a m;have h2:=KB (Dw ha m);have h3:=AN (Dw ha m);have h4:=Ej m;rw[ANO] at h2;rcases ANs m a.length with h | h
 · rw[ANb (by omega)] at h1 h2
   rw[h1,AOA _ _ (by omega),ANw h3 h2,APy]
 · have h5:=KB ha
   have h6:=bU h;rw[ANn h,ANw (AN ha) (by omega)];rfl
theorem fc {a:List Int} (ha:Wl a) {n:Int} (hn:n<=9223372036854775807):Ev (λk=>Df.f k a n) (dg (nv a/2^n.toNat)):=by
 have hal:=ha.2;have hmx:mx n 0=(n.toNat:Int):=by unfold mx;split<;>omega
 obtain⟨b,m,hb,hbm⟩ : ∃b m:Nat,b<=63/\n.toNat=64*m+b:=⟨n.toNat%64,n.toNat/64,by omega,by omega⟩;have e1:wrap64 ((n.toNat:Int)/64)=(m:Int):=by rw[AE (by omega) (by omega)];omega
 have e2:(n.toNat:Int)%64=(b:Int):=by omega
 have hdiv:nv a/2^n.toNat=nv (a.drop m)/2^b:=by
  have hp:=Ej m;rw[hbm,ANl,<-F6,<-AN0 (by omega),Nb ha.1]
 unfold Df.f;rw[hmx,e1,e2,hdiv];by_cases h:(m:Int)>=(a.length:Int)
 · refine Ev.AK h (Ev.same ?_)
   rw[ANn (by omega)];simp[nv,G8]
 · refine Ev.AP h ?_
   rw[AE (by omega) (by omega)];refine Ev.AK (by omega) (Ev.AK (by omega) ?_);refine xR ha hb (a.length-m) m [] (by omega) (by omega) (by simp) Hj ?_;simp[nv,ML]
theorem Xx {l:List Int} (h:Ws l) {n:Nat} (hn:(dg (nv l)).length=n+1):bl (nv l)=64*n+bl (rd l (n:Int))/\0<rd l (n:Int):=by
 have h0:=AN h;have hle:=E6 h;have h1:=T4 h;rw[hn,Bf (by omega)] at h1;have h2:=KB (Dw h n);have h3:=AN (Dw h n);rw[ANO,ANb (by omega)] at h2;have hp:=Ej n;have hpos:0<nv l:=by
  rcases(show nv l=0\/0<nv l by omega) with h4 | h4
  · rw[h4] at hn;simp[G8] at hn
  · exact h4
 have h5:=Wz hpos;rw[hn] at h5;have hu:=Gt h (n:Int);have hr:1<=rd l (n:Int):=by
  rcases(show rd l (n:Int)<=0\/1<=rd l (n:Int) by omega) with h6 | h6
  · have:Wp n*rd l (n:Int)<=0:=Int.mul_nonpos_of_nonneg_of_nonpos (by omega) h6
    simp at h5;omega
  · exact h6
 have hq:nv l/2^(64*n)=rd l (n:Int):=by
  rw[<-F6,<-h1,AOA _ _ (by omega),ANw h3 h2,APy]
 have h7:2^(64*n)<=nv l:=by rw[<-F6];simpa using h5
 refine⟨?_,by omega⟩;rw[QS h7,hq];omega
theorem F0 {l:List Int} (h:Wl l):Ev (λk=>Ce.f k l) (bl (nv l)):=by
 have hl:=h.2;have hle:=E6 h.1;have h0:=AN h.1;refine Ev.bind (Je h) ?_;by_cases hz:(dg (nv l)).length=0
 · refine Ev.AK (by omega) (Ev.same ?_)
   rw[(C5 h0).1 hz,Kn]
 · obtain⟨n,hn⟩ : ∃n,(dg (nv l)).length=n+1:=⟨(dg (nv l)).length-1,by omega⟩
   obtain⟨hb,hr⟩:=Xx h.1 hn;have e:wrap64 (((dg (nv l)).length:Int)-1)=(n:Int):=(by rw[AE (by omega) (by omega)];omega);have hu:=Gt h.1 (n:Int);have l6:=QJ hu.2;have hb3:=B5 (rd l (n:Int));refine Ev.AP (by omega) ?_;rw[e];refine Ev.AK (by omega) (Ev.AK (by omega) (Ev.bind (FC hu) (Ev.same ?_)));rw[hb,AE (n:=64*(n:Int)) (by omega) (by omega),AE (by omega) (by omega)]
def Wd (x i:Int):Bool:=decide (0<=i)&&decide (x/2^i.toNat%2=1)
theorem ou {l:List Int} (h:Ws l) (i:Nat):nv l/2^i%2=rd l ((i/64:Nat):Int)/2^(i%64)%2:=by
 have e:i=64*(i/64)+i%64:=by omega
 have hp:=Ej (i/64)
 conv=>lhs;rw[e,ANl,<-F6,<-AN0 (ANL hp),Nb h]
 rcases ANs (i/64) l.length with h1 | h1
 · rw[IC h1,CI]
   have e2:(18446744073709551616:Int)=2^(i%64)*(2^(63-i%64)*2):=by
    rw[show(2:Int)^(63-i%64)*2=2^(64-i%64) by rw[show 64-i%64=(63-i%64)+1 by omega,ANi],<-ANl,show i%64+(64-i%64)=64 by omega];rfl
   have Lg:=pow_pos (i%64);rw[e2,ANu,AOA _ _ (by omega),show(2:Int)^(63-i%64)*2*nv (l.drop (i/64+1))=2*(2^(63-i%64)*nv (l.drop (i/64+1))) by grind,AOI]
 · rw[ANn h1]
   unfold rd;rw[ANJ,ANI,ANq h1];simp[nv]
theorem ABd {x:Int} (h:U x) (i:Nat) (hi:i<64):(Go.bits .and .u64 (shr .u64 x (i:Int)) 1==1)=decide (x/2^i%2=1):=by
 have hr:=eC h i;rw[VA _ _ (by omega),ANI,AGX _ hr.1 (by unfold U at h;omega)];by_cases hb:x/2^i%2=1<;>simp[hb]
def ADO (l0:List Int) (a1:Int):Option (Bool):=if a1>=0 then(if(wrap64 (Int.tdiv a1 64))<(l0.length:Int) then(if 0<=(wrap64 (Int.tdiv a1 64)) then(if 0<=(Int.tmod a1 64) then(some ((Go.bits .and .u64 (shr .u64 (rd l0 (wrap64 (Int.tdiv a1 64))) (Int.tmod a1 64)) 1)==1)) else(none)) else(none)) else(some false)) else(some false)
theorem ABe {l:List Int} (h:Wl l) {i:Int} (hi:i<=9223372036854775807):ADO l i=some (Wd (nv l) i):=by
 have hl:=h.2;unfold ADO Wd;by_cases h0:i>=0
 · obtain⟨n,rfl⟩:=ANR h0
   have hb:=ou h.1 n;rw[if_pos h0,AN5 h0,AOH h0,AE (by omega) (by omega),ANI,hb];have e1:(n:Int)/64=((n/64:Nat):Int):=(by omega);have e2:(n:Int)%64=((n%64:Nat):Int):=(by omega);rw[e1,e2];by_cases h1:((n/64:Nat):Int)<(l.length:Int)
   · rw[if_pos h1,if_pos (by omega),if_pos (by omega),ABd (Gt h.1 _) _ (by omega)]
     simp
   · rw[if_neg h1]
     have:rd l ((n/64:Nat):Int)=0:=by
      unfold rd;rw[ANJ,ANI,ANq (by omega)];rfl
     rw[this];simp
 · rw[if_neg h0]
   simp;omega
theorem Wc {l:List Int} (h:Wl l) {i:Int} (hi:i<=9223372036854775807):Kt.f l i=some (Wd (nv l) i):=ABe h hi
def tzF:Nat->Int->Int
 | 0,_=>0
 | k+1,x=>if x%2=1 then 0 else 1+tzF k (x/2)
def tz (x:Int):Int:=if x<=0 then 0 else tzF x.toNat x
theorem ow : ∀(k:Nat) (x:Int),0<x->x.toNat<=k-> ∃n:Nat,tzF k x=n/\x/2^n%2=1/\ ∀j,j<n->x/2^j%2=0
 | 0,x,h,hk=>by omega
 | k+1,x,h,hk=>by
   unfold tzF;by_cases h1:x%2=1
   · exact⟨0,by rw[if_pos h1];rfl,by simpa using h1,λj hj=>by omega⟩
   · obtain⟨n,e,h2,h3⟩:=ow k (x/2) (by omega) (by omega)
     have hd : ∀j:Nat,x/2^(j+1)=x/2/2^j:=λj=>by
      rw[AN0 (by omega),ANi,ANY]
     refine⟨n+1,by rw[if_neg h1,e];omega,by rw[hd];exact h2,λj hj=> ?_⟩;cases j with
     | zero=>rw[ANc,AON];omega
     | succ j=>rw[hd];exact h3 j (by omega)
theorem VF {x:Int} (h:0<x) : ∃n:Nat,tz x=n/\x/2^n%2=1/\ ∀j,j<n->x/2^j%2=0:=by
 unfold tz;rw[if_neg (by omega)];exact ow _ x h (ANS _)
theorem gH {x:Int} (h:0<x):tz x<bl x:=by
 obtain⟨n,e,h1,_⟩:=VF h;rcases AN7 (tz x) (bl x) with h2 | h2
 · exact h2
 · have h3:=Gf x
   have h4:=Az (a:=(bl x).toNat) (b:=n) (by omega);rw[ANw (by omega) (by omega)] at h1;omega
theorem sw {l:List Int} (h:Wl l) {n:Nat} (he:tz (nv l)=n) (h1:nv l/2^n%2=1) (h2 : ∀j,j<n->nv l/2^j%2=0) {len:Int} (hlen:(n:Int)<len) (hn:n<=100000000000) (d:Nat) : ∀i:Nat,i+d=n->Ev (λk=>Dm.l0 k l len i) (n:Int):=by
 induction d with
 | zero =>
   intro i hi;obtain rfl:i=n:=by omega
   refine Ev.step (λk=>Dm.l0.eq_2 ..) ?_;refine Ev.AK hlen (Ev.AX (Wc h (by omega)) ?_);refine Ev.AK ?_ (Ev.same rfl);unfold Wd;rw[ANI,h1];simp
 | succ d ih =>
   intro i hi;refine Ev.step (λk=>Dm.l0.eq_2 ..) ?_;refine Ev.AK (by omega) (Ev.AX (Wc h (by omega)) ?_);refine Ev.AP ?_ ?_
   · unfold Wd
     rw[ANI,h2 i (by omega)];simp
   · have e:wrap64 ((i:Int)+1)=((i+1:Nat):Int):=by rw[AE (by omega) (by omega)];omega
     rw[e];exact ih (i+1) (by omega)
theorem r7 {l:List Int} (h:Wl l):Ev (λk=>Dm.f k l) (tz (nv l)):=by
 have hl:=h.2;have hb:=Fg h.1;have h0:=AN h.1;refine Ev.bind (F0 h) ?_;rcases(show nv l=0\/0<nv l by omega) with hz | hp
 · rw[hz]
   refine Ev.step (λk=>Dm.l0.eq_2 ..) ?_;exact Ev.AP (by rw[Kn];omega) (Ev.same rfl)
 · obtain⟨n,e,h1,h2⟩:=VF hp
   have:=gH hp;rw[e];exact sw h e h1 h2 (by omega) (by omega) n 0 (by omega)
theorem eF (l:List Int) : ∀(k:Nat) (i:Int),BJ.l0 k l i=BR.l0 k l i:=by
 intro k;induction k with
 | zero=>intros;rfl
 | succ k ih=>intros;simp only[BJ.l0,BR.l0,ih]
theorem DK {l:List Int} (h:Wl l):Ev (λk=>BJ.f k l) ((dg (nv l)).length:Int):=Ev.congr (λk=>eF ..) (Je h)
theorem kM {l:List Int} (hl:l.length<=1000000000) {n:Nat} (hn:n<=l.length) (d:Nat) : ∀i:Nat,i+d=n->Ev (λk=>Ay.l0 k l (l.take i) (n:Int) i) (l.take n):=by
 induction d with
 | zero =>
   intro i hi;refine Ev.step (λk=>Ay.l0.eq_2 ..) ?_;obtain rfl:i=n:=by omega
   exact Ev.AP (by omega) (Ev.same rfl)
 | succ d ih =>
   intro i hi;have e:wrap64 ((i:Int)+1)=((i+1:Nat):Int):=(by rw[AE (by omega) (by omega)];omega);refine Ev.step (λk=>Ay.l0.eq_2 ..) ?_;refine Ev.AK (by omega) (Ev.AK (by omega) (Ev.AK (by omega) (Ev.AK (by rw[ANO];omega) ?_)));rw[e,<-HQ (by omega)];exact ih (i+1) (by omega)
theorem Bk {l:List Int} (h:Wl l):Ev (λk=>Ay.f k l) (dg (nv l)):=by
 have h1:=E6 h.1;refine Ev.bind (DK h) ?_;have:=kM h.2 h1 (dg (nv l)).length 0 (by omega);rw[kK h.1] at this;exact this
theorem bk {l:List Int} {i:Nat} (h:l.length<=i):rd l (i:Int)=0:=by
 unfold rd;rw[ANJ,ANI,ANq h];rfl
theorem LR (l:List Int) (i:Nat):HI.f l (i:Int)=some (rd l (i:Int)):=by
 unfold HI.f;rw[if_neg (by omega)];by_cases h:(i:Int)>=(l.length:Int)
 · rw[if_pos h,bk (by omega)]
 · rw[if_neg h,if_pos (by omega),if_pos (by omega)]
theorem I4 (l:List Int) (i:Nat):nv (l.take (i+1))=nv (l.take i)+Wp i*rd l (i:Int):=by
 rcases ANs i l.length with h | h
 · exact Bf h
 · rw[bk h,IB h,AOR,AOS]
theorem sx {l:List Int} (h:Ws l) (i:Nat):nv (l.take i)<Wp i:=by
 have h1:=KB (Dw h i);have h2:=bU (List.length_take_le i l);omega
theorem ox {a b:List Int} (ha:Ws a) (hb:Ws b) {i:Nat} (hlt:rd a (i:Int)<rd b (i:Int)):nv (a.take (i+1))<nv (b.take (i+1)):=by
 rw[I4,I4];have c1:=sx ha i;have c2:=AN (Dw hb i);have c3:=Ej i;have c4:=ANe (show rd a (i:Int)+1<=rd b (i:Int) by omega) (ANL c3);rw[AOs,ANr] at c4;omega
theorem ABf (x y z:Int):GD x y=GD (x+z) (y+z):=by unfold GD;split<;>split<;>first | omega | (split<;>first | omega | (split<;>omega))
theorem oy {a b:List Int} (ha:Ws a) (hb:Ws b) (n:Nat) (hn:n<=2000000000):Ev (λk=>CQ.l0 k a b ((n:Int)-1)) (GD (nv (a.take n)) (nv (b.take n))):=by
 induction n with
 | zero =>
   refine Ev.step (λk=>CQ.l0.eq_2 ..) ?_;exact Ev.AP (by omega) (Ev.same rfl)
 | succ n ih =>
   have e:((n+1:Nat):Int)-1=(n:Int):=(by omega);rw[e];refine Ev.step (λk=>CQ.l0.eq_2 ..) ?_;refine Ev.AK (by omega) (Ev.AX (LR a n) (Ev.AX (LR b n) ?_));by_cases c1:rd a (n:Int)<rd b (n:Int)
   · exact Ev.AK c1 (Ev.same (by rw[ZN (ox ha hb c1)]))
   · refine Ev.AP c1 ?_
     by_cases c2:rd a (n:Int)>rd b (n:Int)
     · exact Ev.AK c2 (Ev.same (by rw[kL (ox hb ha c2)]))
     · refine Ev.AP c2 ?_
       rw[AE (by omega) (by omega)];have e2:rd a (n:Int)=rd b (n:Int):=(by omega);refine(ih (by omega)).dF ?_;rw[I4,I4,e2];exact ABf ..
theorem IU {a b:List Int} (ha:Wl a) (hb:Wl b):Ev (λk=>CQ.f k a b) (GD (nv a) (nv b)):=by
 have hal:=ha.2;have hbl:=hb.2;have hm:mx (a.length:Int) (b.length:Int)=((max a.length b.length:Nat):Int):=by unfold mx;split<;>omega
 unfold CQ.f;rw[hm,AE (by omega) (by omega)];refine(oy ha.1 hb.1 (max a.length b.length) (by omega)).dF ?_;rw[ANW (by omega),ANW (by omega)]
theorem Ko {l:List Int} (h:Wl l):Ev (λk=>GY.f k l) (bl (nv l)):=by
 have hl:=h.2;have hle:=E6 h.1;have h0:=AN h.1;refine Ev.bind (DK h) ?_;by_cases hz:(dg (nv l)).length=0
 · refine Ev.AK (by omega) (Ev.same ?_)
   rw[(C5 h0).1 hz,Kn]
 · obtain⟨n,hn⟩ : ∃n,(dg (nv l)).length=n+1:=⟨(dg (nv l)).length-1,by omega⟩
   obtain⟨hb,hr⟩:=Xx h.1 hn;have e:wrap64 (((dg (nv l)).length:Int)-1)=(n:Int):=(by rw[AE (by omega) (by omega)];omega);have hu:=Gt h.1 (n:Int);have l6:=QJ hu.2;have hb3:=B5 (rd l (n:Int));refine Ev.AP (by omega) ?_;rw[e];refine Ev.AK (by omega) (Ev.AK (by omega) (Ev.bind (oa hu) (Ev.same ?_)));rw[hb,AE (n:=64*((dg (nv l)).length:Int)) (by omega) (by omega),AE (n:=64*((dg (nv l)).length:Int)-64) (by omega) (by omega),AE (by omega) (by omega)]
   congr 1;omega
theorem kN (l:List Int) {i:Int} (hi:i<=9223372036854775807):GM.f l i=ADO l i:=by
 unfold GM.f ADO;by_cases h:i>=0
 · rw[if_pos h,if_pos h,AOH h,DE (n:=i%64) (by omega) (by omega)]
 · rw[if_neg h,if_neg h]
theorem Lv {l:List Int} (h:Wl l) {i:Int} (hi:i<=9223372036854775807):GM.f l i=some (Wd (nv l) i):=(kN l hi).trans (ABe h hi)
theorem kO {l:List Int} (h:Wl l) {n:Nat} (h1:nv l/2^n%2=1) (h2 : ∀j,j<n->nv l/2^j%2=0) (hn:n<=100000000000) (d:Nat) : ∀i:Nat,i+d=n->Ev (λk=>B8.l0 k l i) (n:Int):=by
 induction d with
 | zero =>
   intro i hi;obtain rfl:i=n:=by omega
   refine Ev.step (λk=>B8.l0.eq_2 ..) ?_;refine Ev.AX (Lv h (by omega)) ?_;refine Ev.AK ?_ (Ev.same rfl);unfold Wd;rw[ANI,h1];simp
 | succ d ih =>
   intro i hi;refine Ev.step (λk=>B8.l0.eq_2 ..) ?_;refine Ev.AX (Lv h (by omega)) ?_;refine Ev.AP ?_ ?_
   · unfold Wd
     rw[ANI,h2 i (by omega)];simp
   · have e:wrap64 ((i:Int)+1)=((i+1:Nat):Int):=by rw[AE (by omega) (by omega)];omega
     rw[e];exact ih (i+1) (by omega)
theorem OS {l:List Int} (h:Wl l):Ev (λk=>B8.f k l) (tz (nv l)):=by
 have hl:=h.2;have hb:=Fg h.1;have h0:=AN h.1;refine Ev.bind (DK h) ?_;rcases(show nv l=0\/0<nv l by omega) with hz | hp
 · rw[hz]
   exact Ev.AK rfl (Ev.same rfl)
 · obtain⟨n,e,h1,h2⟩:=VF hp
   have:=gH hp;refine Ev.AP (λh=> ?_) ?_
   · have:=(C5 h0).1 (by omega);omega
   · rw[e]
     exact kO h h1 h2 (by omega) n 0 (by omega)
def hv:List Int->Int
 | []=>0
 | x::l=>x+4294967296*hv l
theorem I5 (x:Int) (l:List Int):hv (x::l)=x+4294967296*hv l:=rfl
def Hs (l:List Int):Prop:= ∀x∈l,0<=x/\x<4294967296
def Hp (n:Nat):Int:=4294967296^n
theorem ADP:Hp 0=1:=rfl
theorem ID (n:Nat):Hp (n+1)=4294967296*Hp n:=by unfold Hp;rw[ANi,ANY]
theorem sy (n:Nat):0<Hp n:=by
 induction n with
 | zero=>decide
 | succ n ih=>rw[ID];omega
theorem AI6 {a b:Nat} (h:a<=b):Hp a<=Hp b:=by
 induction b with
 | zero=>obtain rfl:a=0:=by omega
         exact APF _
 | succ b ih =>
   rcases(show a=b+1\/a<=b by omega) with h1 | h1
   · rw[h1];exact APF _
   · have:=ih h1;have:=sy b;rw[ID];omega
theorem AI7 (n:Nat):Hp (2*n)=Wp n:=by
 induction n with
 | zero=>rfl
 | succ n ih=>rw[show 2*(n+1)=2*n+1+1 by omega,ID,ID,ih,DA];omega
theorem ZP {x:Int} {l:List Int} :Hs (x::l)↔(0<=x/\x<4294967296)/\Hs l:=by unfold Hs;simp
theorem ABg {a b:List Int} :Hs (a++b)↔Hs a/\Hs b:=by
 unfold Hs;simp only[ANp];exact⟨λh=>⟨λx hx=>h x (.inl hx),λx hx=>h x (.inr hx)⟩,λh x hx=>hx.elim (h.1 x) (h.2 x)⟩
theorem vU {a:List Int} {x:Int} (ha:Hs a) (h0:0<=x) (h1:x<4294967296):Hs (a++ [x]):=ABg.2 ⟨ha,λy hy=>by simp at hy;rw[hy];exact⟨h0,h1⟩⟩
theorem s8:Hs []:=λx h=>by simp at h
theorem vV {l:List Int} (h:Hs l) (n:Nat):Hs (l.take n):=λx hx=>h x (APU hx)
theorem ADQ {l:List Int} (h:Hs l) (n:Nat):Hs (l.drop n):=λx hx=>h x (APV hx)
theorem vW {l:List Int} (h:Hs l):Ws l:=λx hx=>⟨(h x hx).1,by have:=(h x hx).2;omega⟩
theorem VV {l:List Int} (h:Hs l) (i:Int):0<=rd l i/\rd l i<4294967296:=by
 unfold rd;rw[ANJ];rcases ANs i.toNat l.length with hi | hi
 · rw[ANX hi];exact h _ (AO3 hi)
 · rw[ANq hi];simp
theorem tA (a b:List Int):hv (a++b)=hv a+Hp a.length*hv b:=by
 induction a with
 | nil=>simp[hv,ADP]
 | cons x a ih=>rw[APb,ANt,ID,I5,I5,ih];grind
theorem AF3 (x:Int):hv [x]=x:=by rw[I5];show x+4294967296*0=x;omega
theorem kP (a:List Int) (x:Int):hv (a++ [x])=hv a+Hp a.length*x:=by rw[tA,AF3]
theorem Rz {l:List Int} (h:Hs l):0<=hv l:=by
 induction l with
 | nil=>exact APF 0
 | cons x l ih =>
   have h1:=ZP.1 h;have h2:=ih h1.2;rw[I5];omega
theorem ABh {l:List Int} (h:Hs l):hv l<Hp l.length:=by
 induction l with
 | nil=>decide
 | cons x l ih =>
   have h1:=ZP.1 h;have h2:=ih h1.2;rw[ANt,ID,I5];omega
theorem E7 (l:List Int) (i:Nat):hv (l.take (i+1))=hv (l.take i)+Hp i*rd l (i:Int):=by
 rcases ANs i l.length with h | h
 · rw[HQ h,kP,ANO,ANb (by omega)]
 · rw[bk h,IB h,AOR,AOS]
theorem bu {l:List Int} (h:Hs l) (i:Nat):hv (l.take i)<Hp i:=by
 have h1:=ABh (vV h i);have h2:=AI6 (List.length_take_le i l);omega
theorem ABi (l:List Int) (i:Nat):hv l=hv (l.take i)+Hp (min i l.length)*hv (l.drop i):=by
 have:=tA (l.take i) (l.drop i);rw[AOm,ANO] at this;exact this
theorem tB {r:List Int} (h:Ws r) (h0:nv r=0):hv r=0:=by
 induction r with
 | nil=>rfl
 | cons x r ih =>
   have h1:=F7.1 h;have h2:=AN h1.2;unfold U at h1;rw[CI] at h0;have:=ih h1.2 (by omega);rw[I5,this];omega
def hl:List Int->List Int
 | []=> []
 | x::l=>x%4294967296::x/4294967296::hl l
theorem AET {l:List Int} (h:Ws l):Hs (hl l):=by
 induction l with
 | nil=>exact s8
 | cons x l ih =>
   have h1:=F7.1 h;unfold U at h1;exact ZP.2 ⟨by omega,ZP.2 ⟨by omega,ih h1.2⟩⟩
theorem AI8 (l:List Int):hv (hl l)=nv l:=by
 induction l with
 | nil=>rfl
 | cons x l ih=>show hv (x%4294967296::x/4294967296::hl l)=_;rw[I5,I5,ih,CI];omega
theorem tC (l:List Int):(hl l).length=2*l.length:=by
 induction l with
 | nil=>rfl
 | cons x l ih=>show(x%4294967296::x/4294967296::hl l).length=_;simp[ih];omega
theorem AF4 (a b:List Int):hl (a++b)=hl a++hl b:=by
 induction a with
 | nil=>rfl
 | cons x a ih=>show x%4294967296::x/4294967296::hl (a++b)=_;rw[ih];rfl
def hh (l:List Int):List Int:=dg (nv (hl l))
theorem R0 {l:List Int} (h:Ws l):Hs (hh l)/\hv (hh l)=nv l/\(hh l).length<=2*l.length:=by
 have h1:=AET h;obtain⟨r,hr,hz⟩:=W0 (vW h1);have h2:Hs (dg (nv (hl l))++r):=hr▸h1;have h3:=ABg.1 h2;refine⟨h3.1, ?_, ?_⟩
 · have h4:=tA (dg (nv (hl l))) r
   rw[<-hr,AI8,tB (vW h3.2) hz,AOR,AOS] at h4;exact h4.symm
 · have:=E6 (vW h1)
   rw[tC] at this;exact this
theorem bw {a:List Int} (ha:Wl a) (hla:a.length<=400000000) (d:Nat) : ∀i:Nat,i+d=a.length->Ev (λk=>Bh.l0 k a (hl (a.take i)) (a.length:Int) i) (hh a):=by
 induction d with
 | zero =>
   intro i hi;refine Ev.step (λk=>Bh.l0.eq_2 ..) ?_;refine Ev.AP (by omega) ?_;rw[ANW (by omega)];exact Ev.bind (Bk ⟨vW (AET ha.1),by rw[tC];omega⟩) (Ev.same rfl)
 | succ d ih =>
   intro i hi;have hx:=Gt ha.1 (i:Int);have e:wrap64 ((i:Int)+1)=((i+1:Nat):Int):=(by rw[AE (by omega) (by omega)];omega);have hlen:(hl (a.take i)).length=2*i:=(by rw[tC,ANO];omega);refine Ev.step (λk=>Bh.l0.eq_2 ..) ?_;refine Ev.AK (by omega) (Ev.AK (by omega) (Ev.AK (by omega) (Ev.AK (by omega) ?_)));refine Ev.AX rfl (Ev.AK (by rw[ANT,hlen];simp;omega) ?_);unfold U at hx;rw[e,S6 _ hx.1 hx.2];have e2:hl (a.take i)++ [rd a (i:Int)%4294967296]++ [rd a (i:Int)/4294967296]=hl (a.take (i+1)):=by
    rw[HQ (by omega),AF4,AOJ];rfl
   rw[e2];exact ih (i+1) (by omega)
theorem Fi {a:List Int} (ha:Wl a) (hla:a.length<=400000000):Ev (λk=>Bh.f k a) (hh a):=bw ha hla a.length 0 (by omega)
theorem eG {h:List Int} (hh:Hs h) (hl:h.length<=1000000000) (d:Nat) : ∀(j:Nat) (out:List Int),2*j+d>=h.length->out.length=j->Ws out->j<=600000000->nv out=hv (h.take (2*j))->Ev (λk=>B7.l0 k h out ((2*j:Nat):Int)) (dg (hv h)):=by
 induction d with
 | zero =>
   intro j out hj hlo Nz hj2 he;refine Ev.step (λk=>B7.l0.eq_2 ..) ?_;refine Ev.AP (by omega) ?_;rw[ANW (by omega)] at he;rw[<-he];exact Ev.bind (Bk ⟨Nz,by omega⟩) (Ev.same rfl)
 | succ d ih =>
   intro j out hj hlo Nz hj2 he;refine Ev.step (λk=>B7.l0.eq_2 ..) ?_;by_cases hend:((2*j:Nat):Int)<(h.length:Int)
   · have x0:=VV hh ((2*j:Nat):Int)
     have y0:=VV hh ((2*j+1:Nat):Int);have e1:wrap64 (((2*j:Nat):Int)+1)=((2*j+1:Nat):Int):=(by rw[AE (by omega) (by omega)];omega);have e2:wrap64 (((2*j:Nat):Int)+2)=((2*(j+1):Nat):Int):=(by rw[AE (by omega) (by omega)];omega);have step : ∀w:Int,w=rd h ((2*j:Nat):Int)+4294967296*rd h ((2*j+1:Nat):Int)->Ev (λk=>B7.l0 k h (out++ [w]) ((2*(j+1):Nat):Int)) (dg (hv h)):=by
      intro w hw;refine ih (j+1) _ (by omega) (by rw[ANT,hlo];rfl) (Jv Nz (by unfold U;omega)) (by omega) ?_;rw[HN,hlo,he,show 2*(j+1)=2*j+1+1 by omega,E7,E7,ID,AI7,hw]
      grind
     refine Ev.AK hend (Ev.AK (by omega) ?_);rw[e1,e2];by_cases hn:((2*j+1:Nat):Int)<(h.length:Int)
     · refine Ev.AK hn (Ev.AK (by omega) (Ev.AK (by omega) (step _ ?_)))
       rw[DE (by omega) (by omega),or_comm _ _ (by omega) (by omega) (by omega) (by omega),FU 32 _ _ (by omega) (by omega) (by omega) (by omega) (by omega) (by omega)];omega
     · refine Ev.AP hn (Ev.AK (by omega) (step _ ?_))
       rw[bk (i:=2*j+1) (by omega)];omega
   · refine Ev.AP hend ?_
     rw[ANW (by omega)] at he;rw[<-he];exact Ev.bind (Bk ⟨Nz,by omega⟩) (Ev.same rfl)
theorem Mw {h:List Int} (hh:Hs h) (hl:h.length<=1000000000):Ev (λk=>B7.f k h) (dg (hv h)):=eG hh hl h.length 0 [] (by omega) rfl Hj (by omega) rfl
theorem oz {x y:List Int} (hx:Hs x) (hy:Hs y) {n:Nat} (hn:n<=900000000) (hxn:x.length<n) (hyn:y.length<n) (d:Nat) : ∀(i:Nat) (out:List Int) (c:Int),i+d=n->out.length=i->Hs out->0<=c->c<=1->hv out+Hp i*c=hv (x.take i)+hv (y.take i)->Ev (λk=>Hx.l0 k x y out c (n:Int) i) (dg (hv x+hv y)):=by
 induction d with
 | zero =>
   intro i out c hi hlo Nz h0 h1 he;refine Ev.step (λk=>Hx.l0.eq_2 ..) ?_;refine Ev.AP (by omega) ?_;obtain⟨m,rfl⟩ : ∃m,i=m+1:=⟨i-1,by omega⟩;have b1:=bu hx m;have b2:=bu hy m;have b3:=Rz Nz;have hp:=sy m;rw[ANW (by omega)] at b1 b2;rw[ANW (by omega),ANW (by omega),ID] at he;have hc:c=0:=by
    rcases(show c=0\/c=1 by omega) with h | h
    · exact h
    · subst h;omega
   subst hc;rw[<-he,AOR,AOS];exact Ev.bind (Mw Nz (by omega)) (Ev.same rfl)
 | succ d ih =>
   intro i out c hi hlo Nz h0 h1 he;have HE:=Hd.mk he;clear he;have x0:=VV hx (i:Int);have y0:=VV hy (i:Int);have e:wrap64 ((i:Int)+1)=((i+1:Nat):Int):=(by rw[AE (by omega) (by omega)];omega);refine Ev.step (λk=>Hx.l0.eq_2 ..) ?_;refine Ev.AK (by omega) (Ev.AX (LR x i) (Ev.AX (LR y i) (Ev.AK (by omega) ?_)));rw[e,DE (n:=c+rd x (i:Int)) (by omega) (by omega),DE (by omega) (by omega),S6 _ (by omega) (by omega)];refine ih (i+1) _ _ (by omega) (by rw[ANT,hlo];rfl) (vU Nz (by omega) (by omega)) (by omega) (by omega) ?_;have he:=HE.out;rw[kP,hlo,E7,E7,ID];have hs:c+rd x (i:Int)+rd y (i:Int)=4294967296*((c+rd x (i:Int)+rd y (i:Int))/4294967296)+(c+rd x (i:Int)+rd y (i:Int))%4294967296:=(by omega);generalize (c+rd x (i:Int)+rd y (i:Int))/4294967296=q at *;generalize (c+rd x (i:Int)+rd y (i:Int))%4294967296=r at *;have hc:c=4294967296*q+r-rd x (i:Int)-rd y (i:Int):=(by omega);rw[hc] at he
   grind
theorem Xc {a b:List Int} (ha:Wl a) (hb:Wl b) (hla:a.length<=400000000) (hlb:b.length<=400000000):Ev (λk=>Hx.f k a b) (dg (nv a+nv b)):=by
 obtain⟨a1,a2,a3⟩:=R0 ha.1;obtain⟨b1,b2,b3⟩:=R0 hb.1;refine Ev.bind (Fi ha hla) (Ev.bind (Fi hb hlb) ?_);have hm:wrap64 (mx ((hh a).length:Int) ((hh b).length:Int)+1)=((max (hh a).length (hh b).length+1:Nat):Int):=by
  unfold mx;rw[AE (by split<;>omega) (by split<;>omega)];split<;>omega
 rw[hm,<-a2,<-b2];exact oz a1 b1 (n:=max (hh a).length (hh b).length+1) (by omega) (by omega) (by omega) (max (hh a).length (hh b).length+1) 0 [] 0 (by omega) rfl s8 (by omega) (by omega) rfl
theorem o7 {x y:List Int} (hx:Hs x) (hy:Hs y) (hge:hv y<=hv x) (hn:x.length<=900000000) (d:Nat) : ∀(i:Nat) (out:List Int) (c:Int),i+d=x.length->out.length=i->Hs out->0<=c->c<=1->hv out-Hp i*c=hv (x.take i)-hv (y.take i)->Ev (λk=>Cz.l0 k x y out c (x.length:Int) i) (dg (hv x-hv y)):=by
 induction d with
 | zero =>
   intro i out c hi hlo Nz h0 h1 he;refine Ev.step (λk=>Cz.l0.eq_2 ..) ?_;refine Ev.AP (by omega) ?_;have hi2:i=x.length:=(by omega);subst hi2;rw[AOT] at he;have l6:=ABi y x.length;have hn1:=Rz Nz;have hn2:=ABh Nz;rw[hlo] at hn2;have hn3:=Rz (vV hy x.length);have hn4:=Rz (ADQ hy x.length);have hn5:=ABh hx;have hp:=sy x.length;have hz:Hp (min x.length y.length)*hv (y.drop x.length)=0:=by
    rcases ANs x.length y.length with hlt | hgt
    · rw[ANb (by omega)] at l6 ⊢
      rcases(show hv (y.drop x.length)=0\/1<=hv (y.drop x.length) by omega) with h | h
      · rw[h,AOR]
      · have:=ANe h (ANL hp)
        omega
    · rw[ANn hgt];simp[hv]
   have hu:c=0:=by
    rcases(show c=0\/c=1 by omega) with h | h
    · exact h
    · subst h;omega
   subst hu;have e:hv x-hv y=hv out:=(by omega);rw[e];exact Ev.bind (Mw Nz (by omega)) (Ev.same rfl)
 | succ d ih =>
   intro i out c hi hlo Nz h0 h1 he;have HE:=Hd.mk he;clear he;have x0:=VV hx (i:Int);have y0:=VV hy (i:Int);have e:wrap64 ((i:Int)+1)=((i+1:Nat):Int):=(by rw[AE (by omega) (by omega)];omega);refine Ev.step (λk=>Cz.l0.eq_2 ..) ?_;refine Ev.AK (by omega) (Ev.AK (by omega) (Ev.AK (by omega) (Ev.AX (LR y i) (Ev.AK (by omega) ?_))));have hw:IntKind.u64.wrap (IntKind.u64.wrap (IntKind.u64.wrap (4294967296+rd x (i:Int))-rd y (i:Int))-c)=4294967296+rd x (i:Int)-rd y (i:Int)-c:=by
    rw[wu,wu,wu];omega
   rw[e,hw,S6 _ (by omega) (by omega),DE (n:=1-(4294967296+rd x (i:Int)-rd y (i:Int)-c)/4294967296) (by omega) (by omega)];refine ih (i+1) _ _ (by omega) (by rw[ANT,hlo];rfl) (vU Nz (by omega) (by omega)) (by omega) (by omega) ?_;have he:=HE.out;rw[kP,hlo,E7,E7,ID];have hs:4294967296+rd x (i:Int)-rd y (i:Int)-c=4294967296*((4294967296+rd x (i:Int)-rd y (i:Int)-c)/4294967296)+(4294967296+rd x (i:Int)-rd y (i:Int)-c)%4294967296:=(by omega);generalize (4294967296+rd x (i:Int)-rd y (i:Int)-c)/4294967296=q at *;generalize (4294967296+rd x (i:Int)-rd y (i:Int)-c)%4294967296=r at *;have hc:c=4294967296+rd x (i:Int)-rd y (i:Int)-4294967296*q-r:=(by omega);rw[hc] at he
   grind
theorem QU {a b:List Int} (ha:Wl a) (hb:Wl b) (hla:a.length<=400000000) (hlb:b.length<=400000000) (hge:nv b<=nv a):Ev (λk=>Cz.f k a b) (dg (nv a-nv b)):=by
 obtain⟨a1,a2,a3⟩:=R0 ha.1;obtain⟨b1,b2,b3⟩:=R0 hb.1;refine Ev.bind (Fi ha hla) (Ev.bind (Fi hb hlb) ?_);rw[<-a2,<-b2];exact o7 a1 b1 (by omega) (by omega) (hh a).length 0 [] 0 (by omega) rfl s8 (by omega) (by omega) rfl
theorem o8 {a b:List Int} {i:Nat} (h:i<a.length):rd (a++b) (i:Int)=rd a (i:Int):=by
 unfold rd;rw[ANJ,ANJ,ANI,AN8 h]
theorem VW {a b:List Int} {i:Nat} (h:a.length<=i):rd (a++b) (i:Int)=rd b ((i-a.length:Nat):Int):=by
 unfold rd;rw[ANJ,ANJ,ANI,ANI,AOG h]
theorem b9 (a:List Int) (x:Int) (b:List Int):rd (a++x::b) (a.length:Int)=x:=by
 rw[VW (ANS _),AQJ];rfl
theorem ADR (a:List Int) (x y:Int) (b:List Int):rd (a++x::y::b) ((a.length+1:Nat):Int)=y:=by
 rw[VW (by omega),Nat.add_sub_cancel_left];rfl
theorem VX (a:List Int) (x y:Int) (b:List Int):(a++x::b).set a.length y=a++y::b:=by
 rw[AQe _ _ (ANS _),AQJ];rfl
theorem ADS {l:List Int} {i n:Nat} (h:i<n):rd (l.take n) (i:Int)=rd l (i:Int):=by
 unfold rd;rw[ANJ,ANJ,ANI,APg h]
theorem kQ {o:List Int} (ho:Wl o) (hl:o.length<=999999999) {s:Nat} (hs:s<=63) (hs0:1<=s) (i:Nat) : ∀T:List Int,i<o.length->T.length=o.length-(i+1)->Ws T->nv (o.take (i+1))*2^s+Wp (i+1)*(nv T-rd o (i:Int)/2^(64-s))=nv o*2^s ->
 Ev (λk=>Aj.l2 k (o.take (i+1)++T) (s:Int) (i:Int)) (dg (nv o*2^s)):=by
 have hp:=pow_pos s;have e64:(64-(s:Int)).toNat=64-s:=by omega
 induction i with
 | zero =>
   intro T hi hT hwT he;have hx:=Gt ho.1 ((0:Nat):Int);obtain⟨w1,w2,w3,w4,w5⟩:=bf hx hs (c:=0) (by omega) hp;have e0:o.take (0+1)++T= []++rd o ((0:Nat):Int)::T:=(by rw[HQ hi];rfl);refine Ev.step (λk=>Aj.l2.eq_2 ..) ?_;refine Ev.AP (by omega) (Ev.AK (by rw[e0];simp) ?_);rw[ANI,e0];have er:rd ([]++rd o ((0:Nat):Int)::T) 0=rd o ((0:Nat):Int):=b9 [] _ T;have es : ∀v,([]++rd o ((0:Nat):Int)::T).set (0:Int).toNat v=v::T:=λv=>rfl
   rw[er,es,wu];rw[HQ hi,HN] at he;simp only[APZ,AP9,ML,DA,nv,APy,AOl,ANr] at he;rw[AOS] at w5;have hv:nv (rd o ((0:Nat):Int)*2^s%18446744073709551616::T)=nv o*2^s:=by
    rw[CI];omega
   rw[<-hv];exact Ev.bind (Bk ⟨F7.2 ⟨w5,hwT⟩,by simp;omega⟩) (Ev.same rfl)
 | succ i ih =>
   intro T hi hT hwT he;have hx:=Gt ho.1 ((i+1:Nat):Int);have hy:=Gt ho.1 (i:Int);have q0:0<=rd o (i:Int)/2^(64-s):=ANd hy.1 (ANL (pow_pos _));have q1:rd o (i:Int)/2^(64-s)<2^s:=by
    rw[ANm (pow_pos _),ANY,ZO (by omega)];exact hy.2
   obtain⟨w1,w2,w3,w4,w5⟩:=bf hx hs q0 q1;have HE:=Hd.mk he;have W2:=Hd.mk w2;clear he w2 w3 w4;have ll:(o.take (i+1)).length=i+1:=(by rw[ANO];omega);have e1:o.take (i+1+1)++T=o.take (i+1)++rd o ((i+1:Nat):Int)::T:=(by rw[HQ hi,AOJ];rfl);have e2:rd (o.take (i+1)++rd o ((i+1:Nat):Int)::T) ((i+1:Nat):Int)=rd o ((i+1:Nat):Int):=by
    have:=b9 (o.take (i+1)) (rd o ((i+1:Nat):Int)) T
    rwa [ll] at this
   have e3:rd (o.take (i+1)++rd o ((i+1:Nat):Int)::T) (i:Int)=rd o (i:Int):=by
    rw[o8 (by omega),ADS (by omega)]
   have e4 : ∀v,(o.take (i+1)++rd o ((i+1:Nat):Int)::T).set ((i+1:Nat):Int).toNat v=o.take (i+1)++v::T:=by
    intro v;have:=VX (o.take (i+1)) (rd o ((i+1:Nat):Int)) v T
    rwa [ll] at this
   have e5:wrap64 (((i+1:Nat):Int)-1)=(i:Int):=(by rw[AE (by omega) (by omega)];omega);have e6:(o.take (i+1)++rd o ((i+1:Nat):Int)::T).length=o.length:=(by rw[ANT,ANt,ll,hT];omega);rw[e1];refine Ev.step (λk=>Aj.l2.eq_2 ..) ?_;refine Ev.AK (by omega) (Ev.AK (by omega) (Ev.AK (by rw[e6];omega) ?_));rw[e5];refine Ev.AK (by omega) (Ev.AK (by rw[e6];omega) ?_);rw[e2,e3,e4,e64,ANI,w1];refine ih _ (by omega) (by rw[ANt,hT];omega) (F7.2 ⟨w5,hwT⟩) ?_;rw[<-HE.out,CI,Bf hi,DA (i+1)];have w2:=W2.out;generalize rd o ((i+1:Nat):Int)*2^s%18446744073709551616=r at *;generalize rd o ((i+1:Nat):Int)/2^(64-s)=q at *;generalize rd o (i:Int)/2^(64-s)=p at *;rw[AOw,ANu,w2]
   grind
theorem kR {a:List Int} (ha:Wl a) (hla:a.length<=900000000) {n m s:Nat} (hn:n=64*m+s) (hs:s<=63) (hm:m<=1024) (d:Nat) : ∀i:Nat,i+d=a.length->Ev (λk=>Aj.l1 k a (n:Int) (List.replicate m 0++a.take i) (a.length:Int) i) (dg (nv a*2^n)):=by
 induction d with
 | zero =>
   intro i hi;have hw:Wl (List.replicate m 0++a):=⟨Wy.2 ⟨VR _,ha.1⟩,by simp;omega⟩;have hv:nv (List.replicate m 0++a)=Wp m*nv a:=(by rw[bV,Qp];simp);refine Ev.step (λk=>Aj.l1.eq_2 ..) ?_;refine Ev.AP (by omega) ?_;rw[ANW (by omega)];by_cases h0:s=0
   · refine Ev.AK (by omega) ?_
     have:nv a*2^n=nv (List.replicate m 0++a):=(by rw[hv,hn,h0,AQH,<-F6,ANY]);rw[this];exact Ev.bind (Bk hw) (Ev.same rfl)
   · have es:(n:Int)%64=(s:Int):=by omega
     rw[es];refine Ev.AP (by omega) (Ev.AK (by simp;omega) ?_);refine Ev.AX rfl ?_;have hlen:(List.replicate m 0++a++ [0]).length=m+a.length+1:=(by simp;omega);have ew:wrap64 (((List.replicate m 0++a++ [(0:Int)]).length:Int)-1)=((m+a.length:Nat):Int):=(by rw[hlen,AE (by omega) (by omega)];omega);rw[ew];have Nz:Wl (List.replicate m 0++a++ [0]):=⟨Jv hw.1 (by unfold U;omega),by rw[hlen];omega⟩;have hvo:nv (List.replicate m 0++a++ [0])=Wp m*nv a:=(by rw[HN,hv];omega);have h:=kQ Nz (by rw[hlen];omega) hs (by omega) (m+a.length) [] (by rw[hlen];omega) (by rw[hlen];simp) Hj (by
      have hr:rd (List.replicate m 0++a++ [(0:Int)]) ((m+a.length:Nat):Int)=0:=by
       have:=b9 (List.replicate m 0++a) (0:Int) []
       rwa [show(List.replicate m (0:Int)++a).length=m+a.length by simp] at this
      rw[hr,ANW (by rw[hlen];omega)];simp[nv])
     rw[AOa,ANW (by rw[hlen];omega)] at h;refine h.dF ?_;rw[hvo,hn,ANl,<-F6]
     congr 1
     grind
 | succ d ih =>
   intro i hi;have e:wrap64 ((i:Int)+1)=((i+1:Nat):Int):=(by rw[AE (by omega) (by omega)];omega);refine Ev.step (λk=>Aj.l1.eq_2 ..) ?_;refine Ev.AK (by omega) (Ev.AK (by omega) (Ev.AK (by omega) (Ev.AK (by simp;omega) ?_)));rw[e,AOJ,<-HQ (by omega)];exact ih (i+1) (by omega)
theorem kS {a:List Int} (ha:Wl a) (hla:a.length<=900000000) {n m s:Nat} (hn:n=64*m+s) (hs:s<=63) (hm:m<=1024) (d:Nat) : ∀i:Nat,i+d=m->Ev (λk=>Aj.l0 k a (n:Int) (List.replicate i 0) (m:Int) i) (dg (nv a*2^n)):=by
 induction d with
 | zero =>
   intro i hi;obtain rfl:i=m:=by omega
   refine Ev.step (λk=>Aj.l0.eq_2 ..) ?_;refine Ev.AP (by omega) ?_;have h:=kR ha hla hn hs hm a.length 0 (by omega)
   rwa [APZ,AOa] at h
 | succ d ih =>
   intro i hi;have e:wrap64 ((i:Int)+1)=((i+1:Nat):Int):=(by rw[AE (by omega) (by omega)];omega);refine Ev.step (λk=>Aj.l0.eq_2 ..) ?_;refine Ev.AK (by omega) (Ev.AK (by simp;omega) ?_);rw[e,<-AP5];exact ih (i+1) (by omega)
theorem Fp {a:List Int} (ha:Wl a) (hla:a.length<=900000000) (n:Int):Ev (λk=>Aj.f k a n) (dg (nv a*2^nu n)):=by
 have hs:=ABc n;obtain⟨b,m,hb,hm,hbm⟩ : ∃b m:Nat,b<=63/\m<=1024/\nu n=64*m+b:=⟨nu n%64,nu n/64,by omega,by omega,by omega⟩;unfold Aj.f;rw[su,show(nu n:Int)/64=(m:Int) by omega];exact kS ha hla hbm hb hm m 0 (by omega)
theorem kT {o:List Int} (ho:Wl o) {s:Nat} (hs:s<=63) (d:Nat) : ∀(i:Nat) (R:List Int),i+d=o.length->R.length=i->Ws R->nv R+Wp i*(nv (o.drop i)/2^s)=nv o/2^s ->
 Ev (λk=>BB.l1 k (R++o.drop i) (s:Int) (o.length:Int) i) (dg (nv o/2^s)):=by
 have hol:=ho.2;have e64:(64-(s:Int)).toNat=64-s:=by omega
 induction d with
 | zero =>
   intro i R hi hR hwR he;refine Ev.step (λk=>BB.l1.eq_2 ..) ?_;refine Ev.AP (by omega) ?_;rw[ANn (by omega)] at he ⊢;simp[nv] at he;rw[<-he,AOa];exact Ev.bind (Bk ⟨hwR,by omega⟩) (Ev.same rfl)
 | succ d ih =>
   intro i R hi hR hwR he;have hx:=Gt ho.1 (i:Int);have hz:=Gt ho.1 ((i+1:Nat):Int);rw[IC (show i<o.length by omega)] at he ⊢;rw[CI] at he;have HE:=Hd.mk he;clear he;have e:wrap64 ((i:Int)+1)=((i+1:Nat):Int):=(by rw[AE (by omega) (by omega)];omega);have r1:rd (R++rd o (i:Int)::o.drop (i+1)) (i:Int)=rd o (i:Int):=(by rw[<-hR];exact b9 ..);have s1 : ∀v:Int,(R++rd o (i:Int)::o.drop (i+1)).set (i:Int).toNat v=R++v::o.drop (i+1):=λv=>by
    rw[ANI,<-hR];exact VX ..
   have r2 : ∀v:Int,rd (R++v::o.drop (i+1)) (i:Int)=v:=λv=>by rw[<-hR];exact b9 ..
   have s2 : ∀v u:Int,(R++v::o.drop (i+1)).set (i:Int).toNat u=R++u::o.drop (i+1):=λv u=>by
    rw[ANI,<-hR];exact VX ..
   have l1 : ∀v:Int,(R++v::o.drop (i+1)).length=o.length:=λv=>by simp[hR];omega
   refine Ev.step (λk=>BB.l1.eq_2 ..) ?_;refine Ev.AK (by omega) (Ev.AK (by omega) (Ev.AK (by rw[l1];omega) ?_));rw[r1,s1,e,ANI,e64];refine Ev.AX rfl ?_;have next : ∀w:Int,U w->(rd o (i:Int)+18446744073709551616*nv (o.drop (i+1)))/2^s=w+18446744073709551616*(nv (o.drop (i+1))/2^s)->Ev (λk=>BB.l1 k (R++w::o.drop (i+1)) (s:Int) (o.length:Int) ((i+1:Nat):Int)) (dg (nv o/2^s)):=by
    intro w hw hq;have h:=ih (i+1) (R++ [w]) (by omega) (by rw[ANT,hR];rfl) (Jv hwR hw) (by
     have he:=HE.out;rw[hq] at he;rw[HN,hR,DA,<-he]
     grind)
    rwa [AOJ] at h
   by_cases hn:((i+1:Nat):Int)<(o.length:Int)
   · obtain⟨w1,w2,w3⟩:=bh (T:=nv (o.drop (i+1))) hx hz hs ⟨nv (o.drop (i+1+1)),by rw[IC (show i+1<o.length by omega),CI]⟩
     have r3 : ∀v:Int,rd (R++v::o.drop (i+1)) ((i+1:Nat):Int)=rd o ((i+1:Nat):Int):=λv=>by
      rw[IC (show i+1<o.length by omega),<-hR];exact ADR ..
     refine Ev.AK (by rw[l1];exact hn) (Ev.AK (by omega) ?_);rw[r2,r3,s2];have hw:IntKind.u64.wrap (IntKind.u64.wrap (rd o ((i+1:Nat):Int)*2)*2^(63-s))=IntKind.u64.wrap (rd o ((i+1:Nat):Int)*2^(64-s)):=by
      rw[wu,wu,wu,mul_mod_left,ANu,show(2:Int)*2^(63-s)=2^(64-s) by rw[show 64-s=(63-s)+1 by omega,ANi,ANY]]
     rw[hw] at w1;rw[w1];exact next _ w2 w3
   · obtain⟨w1,w2,w3⟩:=gG (T:=nv (o.drop (i+1))) hx hs (by rw[ANn (by omega)];rfl)
     refine Ev.AP (by rw[l1];exact hn) ?_;exact next _ w2 w3
theorem kU {a:List Int} (ha:Wl a) {n m s:Nat} (hn:n=64*m+s) (hs:s<=63) (d:Nat) : ∀i:Nat,i+d=a.length->m<=i->Ev (λk=>BB.l0 k a (n:Int) ((a.drop m).take (i-m)) i) (dg (nv a/2^n)):=by
 have hal:=ha.2;have hdiv:nv a/2^n=nv (a.drop m)/2^s:=by
  have hp:=Ej m;rw[hn,ANl,<-F6,<-AN0 (by omega),Nb ha.1]
 induction d with
 | zero =>
   intro i hi yB;have hw:Wl (a.drop m):=⟨MM ha.1 m,by simp;omega⟩;refine Ev.step (λk=>BB.l0.eq_2 ..) ?_;refine Ev.AP (by omega) ?_;rw[ANW (by simp;omega),show(n:Int)%64=(s:Int) by omega,hdiv];by_cases h0:s=0
   · refine Ev.AK (by omega) ?_
     rw[h0,ANc,AON];exact Ev.bind (Bk hw) (Ev.same rfl)
   · refine Ev.AP (by omega) ?_
     exact kT hw hs (a.drop m).length 0 [] (by omega) rfl Hj (by simp[nv,ML])
 | succ d ih =>
   intro i hi yB;have e:wrap64 ((i:Int)+1)=((i+1:Nat):Int):=(by rw[AE (by omega) (by omega)];omega);have e2:(a.drop m).take (i-m)++ [rd a (i:Int)]=(a.drop m).take (i+1-m):=by
    have h1:=HQ (l:=a.drop m) (i:=i-m) (by simp;omega);have h2:rd (a.drop m) ((i-m:Nat):Int)=rd a (i:Int):=by
     unfold rd;rw[ANJ,ANJ,ANI,ANI,ANj,show m+(i-m)=i by omega]
    rw[h2] at h1;rw[Xw yB,h1]
   refine Ev.step (λk=>BB.l0.eq_2 ..) ?_;refine Ev.AK (by omega) (Ev.AK (by omega) (Ev.AK (by simp;omega) ?_));rw[e,e2];exact ih (i+1) (by omega) (by omega)
theorem J6 {a:List Int} (ha:Wl a) {n:Int} (hn:n<=9223372036854775807):Ev (λk=>BB.f k a n) (dg (nv a/2^n.toNat)):=by
 have hal:=ha.2;have hmx:mx n 0=(n.toNat:Int):=by unfold mx;split<;>omega
 obtain⟨b,m,hb,hbm⟩ : ∃b m:Nat,b<=63/\n.toNat=64*m+b:=⟨n.toNat%64,n.toNat/64,by omega,by omega⟩;have e1:wrap64 ((n.toNat:Int)/64)=(m:Int):=by rw[AE (by omega) (by omega)];omega
 unfold BB.f;rw[hmx,e1];rcases ANs m a.length with h | h
 · have:=kU ha hbm hb (a.length-m) m (by omega) (ANS _)
   rwa [AQJ,APZ] at this
 · have hz:nv a/2^n.toNat=0:=by
    have h1:=KB ha.1;have h2:=bU h;rw[hbm,ANl,<-F6];have h3:=pow_pos b;have h4:=ANe (show 1<=(2:Int)^b by omega) (ANL (Ej m));exact ANw (AN ha.1) (by omega)
   rw[hz];refine Ev.step (λk=>BB.l0.eq_2 ..) ?_;refine Ev.AP (by omega) ?_;by_cases h0:(n.toNat:Int)%64=0
   · exact Ev.AK h0 (Ev.bind (Bk ⟨Hj,by simp⟩) (Ev.same rfl))
   · refine Ev.AP h0 (Ev.step (λk=>BB.l1.eq_2 ..) (Ev.AP (by simp) ?_))
     exact Ev.bind (Bk ⟨Hj,by simp⟩) (Ev.same rfl)
theorem T5 : ∀(l:List Int) (p:Nat) (v:Int),p<l.length->nv (l.set p v)=nv l+Wp p*(v-rd l (p:Int))
 | [],p,v,h=>by simp at h
 | x::t,0,v,h=>by
   show v+18446744073709551616*nv t=x+18446744073709551616*nv t+1*(v-x);omega
 | x::t,p+1,v,h=>by
   have ih:=T5 t p v (by simpa using h);have e:rd (x::t) ((p+1:Nat):Int)=rd t (p:Int):=(by unfold rd;simp);rw[AO4,CI,CI,ih,e,DA,AOs,ANu,Int.add_assoc]
theorem W5 {l:List Int} (h:Ws l) (p:Nat) {v:Int} (hv:U v):Ws (l.set p v):=λx hx=>by
 rcases AQR hx with h1 | h1
 · exact h x h1
 · rw[h1];exact hv
theorem IY {l:List Int} {p q:Nat} {v:Int} (h:p≠q):rd (l.set p v) (q:Int)=rd l (q:Int):=by
 unfold rd;rw[ANJ,ANJ,ANI,ANf h]
theorem o9 (n i:Nat):rd (List.replicate n 0) (i:Int)=0:=by
 unfold rd;rw[ANJ,ANI,AOX];split<;>rfl
theorem pE {B x y s c hi lo v ov:Int} (hB:0<B) (hx0:0<=x) (hx:x<B) (hy0:0<=y) (hy:y<B) (hs0:0<=s) (hs:s<B) (hc0:0<=c) (hc:c<B)
 (e1:x*y=B*hi+lo) (e2:s+lo+c=B*ov+v) (hl0:0<=lo) (hv0:0<=v):hi+ov<B:=by
 have h1:x*y<=(B-1)*(B-1):=APs (by omega) (by omega) hy0 (by omega);have h2:(B-1)*(B-1)=B*B-2*B+1:=by grind
 have h3:B*(hi+ov)<B*B:=by
  have:B*(hi+ov)=B*hi+B*ov:=AOs ..;omega
 exact Int.lt_of_mul_lt_mul_left h3 (ANL hB)
theorem kV {a b:List Int} (ha:Wl a) (hb:Wl b) (hab:a.length+b.length<=1000000000) {i:Nat} (hi:i<a.length) {N:Int}
 (next : ∀z:List Int,z.length=a.length+b.length->Ws z->nv z=nv (a.take (i+1))*nv b->(∀p:Nat,i+1+b.length<=p->rd z (p:Int)=0)->Ev (λk=>Bb.l0 k b z a (a.length:Int) ((i+1:Nat):Int)) (dg N))
 (d:Nat) : ∀(j:Nat) (z:List Int) (c:Int),j+d=b.length->z.length=a.length+b.length->Ws z->U c->nv z+Wp (i+j)*c=nv (a.take i)*nv b+Wp i*(rd a (i:Int)*nv (b.take j))->(∀p:Nat,i+b.length<=p->rd z (p:Int)=0) ->
 Ev (λk=>Bb.l1 k b z (i:Int) (rd a (i:Int)) c a (a.length:Int) (i:Int) b (b.length:Int) j) (dg N):=by
 have hx:=Gt ha.1 (i:Int);induction d with
 | zero =>
   intro j z c hj hz pF hc he h0;have HE:=Hd.mk he;clear he;have e:wrap64 ((i:Int)+(b.length:Int))=((i+b.length:Nat):Int):=(by rw[AE (by omega) (by omega)];omega);have e2:wrap64 ((i:Int)+1)=((i+1:Nat):Int):=(by rw[AE (by omega) (by omega)];omega);refine Ev.step (λk=>Bb.l1.eq_2 ..) ?_;rw[e,e2];refine Ev.AP (by omega) (Ev.AK (by omega) (Ev.AK (by omega) ?_));rw[ANI];refine next _ (by simp;omega) (W5 pF _ hc) ?_ ?_
   · rw[T5 _ _ _ (by omega),h0 _ (ANS _),Bf hi]
     have ej:j=b.length:=(by omega);have he:=HE.out;rw[ej,ANW (ANS _)] at he;rw[Int.sub_zero,he,AOw,ANu]
   · intro p hp
     rw[IY (by omega),h0 p (by omega)]
 | succ d ih =>
   intro j z c hj hz pF hc he h0;have HE:=Hd.mk he;clear he;have hy:=Gt hb.1 (j:Int);have hs:=Gt pF ((i+j:Nat):Int);have e:wrap64 ((i:Int)+(j:Int))=((i+j:Nat):Int):=(by rw[AE (by omega) (by omega)];omega);have e2:wrap64 ((j:Int)+1)=((j+1:Nat):Int):=(by rw[AE (by omega) (by omega)];omega);refine Ev.step (λk=>Bb.l1.eq_2 ..) ?_;rw[e,e2];refine Ev.AK (by omega) (Ev.AK (by omega) (Ev.AK (by omega) (Ev.AX (IG hx hy) (Ev.AK (by omega) (Ev.AK (by omega) ?_)))));generalize hP:rd a (i:Int)*rd b (j:Int)=P;have AMH:U (P%18446744073709551616):=(by unfold U;omega);refine Ev.AX (OR hs AMH hc) ?_;dsimp only;rw[ANI];generalize hS:rd z ((i+j:Nat):Int)=S at *;unfold U at hx hc hs hy;have hP0:0<=P:=(by rw[<-hP];exact ANZ hx.1 hy.1);have hbd:=pE (B:=18446744073709551616) (x:=rd a (i:Int)) (y:=rd b (j:Int)) (s:=S) (c:=c) (hi:=P/18446744073709551616) (lo:=P%18446744073709551616) (v:=(S+P%18446744073709551616+c)%18446744073709551616) (ov:=(S+P%18446744073709551616+c)/18446744073709551616) (by omega) hx.1 hx.2 hy.1 hy.2 hs.1 hs.2 hc.1 hc.2 (by omega) (by omega) (by omega) (by omega);rw[DE (by omega) (by omega)];refine ih (j+1) _ _ (by omega) (by simp;omega) (W5 pF _ (by unfold U;omega)) (by unfold U;omega) ?_ ?_
   · have he:=HE.out
     have hq:S+P+c=18446744073709551616*(P/18446744073709551616+(S+P%18446744073709551616+c)/18446744073709551616)+(S+P%18446744073709551616+c)%18446744073709551616:=(by omega);rw[T5 _ _ _ (by omega),hS,Bf (by omega),<-AOt,DA];generalize P/18446744073709551616+(S+P%18446744073709551616+c)/18446744073709551616=q at *;generalize (S+P%18446744073709551616+c)%18446744073709551616=r at *;have hc':c=18446744073709551616*q+r-P-S:=(by omega);rw[hc',<-hP] at he;have hWa:=Qo i j
     grind
   · intro p hp
     rw[IY (by omega),h0 p hp]
theorem kW {a b:List Int} (ha:Wl a) (hb:Wl b) (hab:a.length+b.length<=1000000000) (d:Nat) : ∀(i:Nat) (z:List Int),i+d=a.length->z.length=a.length+b.length->Ws z->nv z=nv (a.take i)*nv b->(∀p:Nat,i+b.length<=p->rd z (p:Int)=0) ->
 Ev (λk=>Bb.l0 k b z a (a.length:Int) i) (dg (nv a*nv b)):=by
 induction d with
 | zero =>
   intro i z hi hz pF he h0;refine Ev.step (λk=>Bb.l0.eq_2 ..) ?_;refine Ev.AP (by omega) ?_;rw[ANW (by omega)] at he;rw[<-he];exact Ev.bind (Ch ⟨pF,by omega⟩) (Ev.same rfl)
 | succ d ih =>
   intro i z hi hz pF he h0;refine Ev.step (λk=>Bb.l0.eq_2 ..) ?_;refine Ev.AK (by omega) (Ev.AK (by omega) (Ev.AK (by omega) ?_));exact kV ha hb hab (by omega) (λz h1 h2 h3 h4=>ih (i+1) z (by omega) h1 h2 h3 h4) b.length 0 z 0 (by omega) hz pF (by unfold U;omega) (by simp[nv];omega) h0
theorem Xy {a b:List Int} (ha:Wl a) (hb:Wl b) (hab:a.length+b.length<=1000000000):Ev (λk=>Bb.f k a b) (dg (nv a*nv b)):=by
 have e:wrap64 ((a.length:Int)+(b.length:Int))=((a.length+b.length:Nat):Int):=by rw[AE (by omega) (by omega)];omega
 unfold Bb.f;rw[e,ANI];refine Ev.AK (by omega) (Ev.AK (by omega) ?_);exact kW ha hb hab a.length 0 _ (by omega) (by simp) (VR _) (by rw[Qp,APZ];simp[nv]) (λp _=>o9 _ p)
theorem S7 {a:List Int} (ha:Wl a) (m:Nat):Ev (λk=>EV.f k a 0 (m:Int)) (dg (nv (a.take m))):=by
 have hal:=ha.2;have e0:mn (0:Int) (a.length:Int)=0:=by unfold mn;split<;>omega
 have e1:mn (m:Int) (a.length:Int)=((min m a.length:Nat):Int):=by unfold mn;split<;>omega
 unfold EV.f;rw[e0,e1];refine Ev.AK (by omega) (Ev.AK (by omega) (Ev.AK (by omega) ?_));have e2:(a.take ((min m a.length:Nat):Int).toNat).drop (0:Int).toNat=a.take m:=by
  rw[ANI];show List.drop 0 _=_;rw[APY,List.take_eq_take_iff];omega
 rw[e2];exact Ev.bind (Ch ⟨Dw ha.1 m,by rw[ANO];omega⟩) (Ev.same rfl)
theorem Qq {a:List Int} (ha:Wl a) (m:Nat):Ev (λk=>EV.f k a (m:Int) (a.length:Int)) (dg (nv (a.drop m))):=by
 have hal:=ha.2;have e0:mn (a.length:Int) (a.length:Int)=a.length:=by unfold mn;split<;>omega
 have e1:mn (m:Int) (a.length:Int)=((min m a.length:Nat):Int):=by unfold mn;split<;>omega
 unfold EV.f;rw[e0,e1];refine Ev.AK (by omega) (Ev.AK (by omega) (Ev.AK (by omega) ?_));have e2:(a.take (a.length:Int).toNat).drop ((min m a.length:Nat):Int).toNat=a.drop m:=by
  rw[ANI,ANI,AOT];rcases AQh m a.length with h | h
  · rw[ANb h]
  · rw[Nat.min_eq_right h,ANn (ANS _),ANn h]
 rw[e2];exact Ev.bind (Ch ⟨MM ha.1 m,by rw[ANo];omega⟩) (Ev.same rfl)
theorem kX {a:List Int} (ha:Wl a) {m:Nat} (hm:a.length+m<=1000000000):Ev (λk=>D5.f k a (m:Int)) (dg (nv a*Wp m)):=by
 unfold D5.f;rw[ANI];refine Ev.AK (by omega) (Ev.AK (by omega) (Ev.AX rfl (Ev.AK (by simp;omega) ?_)));have hv:nv a*Wp m=nv (List.replicate m 0++a):=by rw[bV,Qp,AOV,APy,ANY]
 rw[hv];exact Ev.bind (Ch ⟨Wy.2 ⟨VR _,ha.1⟩,by simp;omega⟩) (Ev.same rfl)
theorem xS {l:List Int} (h:Ws l):(dg (nv l)).length<=l.length:=LC (KB h)
theorem xT {m:Nat} (hm:m<=100000000) {a0 a1 b0 b1:Int} (na0:0<=a0) (na1:0<=a1) (nb0:0<=b0) (nb1:0<=b1) (ba0:bl a0<=64*m) (ba1:bl a1<=64*m) (bb0:bl b0<=64*m) (bb1:bl b1<=64*m)
 {M:Nat->List Int->List Int->Option (List Int)} (ih : ∀x y:Int,0<=x->0<=y->bl x<=64*(m+1)->bl y<=64*(m+1)->Ev (λk=>M k (dg x) (dg y)) (dg (x*y))) :
 Ev (λk=>(M k (dg a0) (dg b0)).bind λAI9=>((M k (dg a1) (dg b1)).bind λAJA=>((BH.f k (dg a0) (dg a1)).bind λAMI=>((BH.f k (dg b0) (dg b1)).bind λAMJ=>((M k AMI AMJ).bind λAMK=>((BH.f k AI9 AJA).bind λAML=>((C9.f k AMK AML).bind λAJB=>((D5.f k AJB.1 (m:Int)).bind λAMM=>((D5.f k AJA ((2*m:Nat):Int)).bind λAMN=>((BH.f k AMM AMN).bind λAMO=>((BH.f k AI9 AMO).bind λsW=>(some sW))))))))))))
  (dg ((a0+Wp m*a1)*(b0+Wp m*b1))):=by
 have q : ∀x:Int,0<=x->bl x<=30000000000->Wl (dg x)/\nv (dg x)=x/\(dg x).length<=900000000/\((dg x).length:Int)<=(bl x+63)/64:=λx h h2=>⟨Bg (by omega),Aa h,by have:=AW x;omega,AW x⟩
 have add : ∀x y:Int,0<=x->0<=y->bl x<=30000000000->bl y<=30000000000->Ev (λk=>BH.f k (dg x) (dg y)) (dg (x+y)):=λx y h1 h2 h3 h4=>by
  obtain⟨q1,q2,q3,_⟩:=q x h1 h3;obtain⟨r1,r2,r3,_⟩:=q y h2 h4;have:=Wh q1 r1 (by omega) (by omega)
  rwa [q2,r2] at this
 have above : ∀(x:Int) (n:Nat),0<=x->bl x<=30000000000->n<=200000000->Ev (λk=>D5.f k (dg x) (n:Int)) (dg (x*Wp n)):=λx n h1 h2 h3=>by
  obtain⟨q1,q2,_,q4⟩:=q x h1 h2;have:=kX q1 (m:=n) (by omega)
  rwa [q2] at this
 have bs:=WY na0 na1 (m:=64*m) ba0 ba1;have bt:=WY nb0 nb1 (m:=64*m) bb0 bb1;have n0:0<=a0*b0:=ANZ na0 nb0;have n1:0<=a1*b1:=ANZ na1 nb1;have nx1:0<=a0*b1:=ANZ na0 nb1;have nx2:0<=a1*b0:=ANZ na1 nb0;have b00:=F1 na0 nb0;have b11:=F1 na1 nb1;have bst:=F1 (x:=a0+a1) (y:=b0+b1) (by omega) (by omega);have eq:(a0+a1)*(b0+b1)=a0*b0+a1*b1+(a0*b1+a1*b0):=by grind
 have e2m:Wp (2*m)=Wp m*Wp m:=by rw[<-Qo];congr 1;omega
 have goal:(a0+Wp m*a1)*(b0+Wp m*b1)=a0*b0+((a0*b1+a1*b0)*Wp m+a1*b1*Wp (2*m)):=by rw[e2m];grind
 have hW:=Ej m;have hW2:=Ej (2*m);have bW:bl (Wp m)<=64*m+1:=by
  have:=Bw (x:=Wp m) (n:=64*m+1) (by rw[F6,ANi];have:=pow_pos (64*m);omega);omega
 have bW2:bl (Wp (2*m))<=128*m+1:=by
  have:=Bw (x:=Wp (2*m)) (n:=64*(2*m)+1) (by rw[F6,ANi];have:=pow_pos (64*(2*m));omega);omega
 rw[goal];clear goal e2m;have M0:=ih a0 b0 na0 nb0 (by omega) (by omega);have M1:=ih a1 b1 na1 nb1 (by omega) (by omega);have M2:=ih (a0+a1) (b0+b1) (by omega) (by omega) (by omega) (by omega);rw[eq] at M2 bst;clear eq ih;have A1:=add a0 a1 na0 na1 (by omega) (by omega);have A2:=add b0 b1 nb0 nb1 (by omega) (by omega);generalize a0*b0=x0 at *;generalize a1*b1=x1 at *;generalize hmid:a0*b1+a1*b0=x2 at *;have n2:0<=x2:=by omega
 have bs2:=WY n0 n1 (m:=128*m) (by omega) (by omega);have A3:=add x0 x1 n0 n1 (by omega) (by omega);have S1:Ev (λk=>C9.f k (dg (x0+x1+x2)) (dg (x0+x1))) (dg x2,true):=by
  obtain⟨q1,q2,_,_⟩:=q (x0+x1+x2) (by omega) (by omega);obtain⟨r1,r2,_,_⟩:=q (x0+x1) (by omega) (by omega);have:=W4 q1 r1 (by omega)
  rwa [q2,r2,show x0+x1+x2-(x0+x1)=x2 by omega] at this
 have AM7:=Bv (x:=x2) (y:=x0+x1+x2) (by omega);have U1:=above x2 m n2 (by omega) (by omega);have U2:=above x1 (2*m) n1 (by omega) (by omega);have bu1:=F1 n2 (ANL hW);have bu2:=F1 n1 (ANL hW2);have nu1:0<=x2*Wp m:=ANZ n2 (ANL hW);have nu2:0<=x1*Wp (2*m):=ANZ n1 (ANL hW2);have A4:=add _ _ nu1 nu2 (by omega) (by omega);have AM8:=WY nu1 nu2 (m:=256*m+100) (by omega) (by omega);have A5:=add x0 _ n0 (Int.add_nonneg nu1 nu2) (by omega) (by omega);exact Ev.bind M0 (Ev.bind M1 (Ev.bind A1 (Ev.bind A2 (Ev.bind M2 (Ev.bind A3 (Ev.bind S1 (Ev.bind U1 (Ev.bind U2 (Ev.bind A4 (Ev.bind A5 (Ev.same rfl)))))))))))
theorem R4 (a:List Int) (m:Nat):nv a=nv (a.take m)+Wp m*nv (a.drop m):=by
 have sa:=VS a m;rcases AQh m a.length with h | h
 · rw[ANb h] at sa;exact sa
 · rw[ANW h,ANn h];simp[nv]
theorem tD (n:Nat) : ∀a b:List Int,Wl a->Wl b->a.length<=n->b.length<=n->n<=100000000->Ev (λk=>DV.f k a b) (dg (nv a*nv b)):=by
 induction n using Nat.strongRecOn with
 | ind n ih =>
   intro a b ha hb hla hlb hn;refine Ev.step (λk=>DV.f.eq_2 ..) ?_;by_cases h1:(a.length:Int)<8
   · exact Ev.AK h1 (Ev.bind (Xy ha hb (by omega)) (Ev.same rfl))
   refine Ev.AP h1 ?_;by_cases h2:(b.length:Int)<8
   · exact Ev.AK h2 (Ev.bind (Xy ha hb (by omega)) (Ev.same rfl))
   refine Ev.AP h2 (Ev.bind ?_ (Ev.same rfl));obtain⟨m,hm⟩ : ∃m,m=(max a.length b.length+1)/2:=⟨_,rfl⟩;have hmn:m+1<n:=(by omega);have hma:a.length<=2*m:=(by omega);have hmb:b.length<=2*m:=(by omega);have em:wrap64 (Int.tdiv (wrap64 ((mx (a.length:Int) (b.length:Int))+1)) 2)=(m:Int):=by
    have:mx (a.length:Int) (b.length:Int)=((max a.length b.length:Nat):Int):=(by unfold mx;split<;>omega);rw[this,AE (n:=((max a.length b.length:Nat):Int)+1) (by omega) (by omega),AN5 (by omega),AE (by omega) (by omega)];omega
   clear hm;have em2:wrap64 (2*(m:Int))=((2*m:Nat):Int):=(by rw[AE (by omega) (by omega)];omega);unfold IW.f;rw[em,em2];clear em em2;have bd : ∀l:List Int,Ws l->l.length<=m->bl (nv l)<=64*m:=λl h h2=>by have:=Fg h;omega
   have go:=xT (m:=m) (by omega) (AN (Dw ha.1 m)) (AN (MM ha.1 m)) (AN (Dw hb.1 m)) (AN (MM hb.1 m))
    (bd _ (Dw ha.1 m) (by rw[ANO];omega)) (bd _ (MM ha.1 m) (by rw[ANo];omega)) (bd _ (Dw hb.1 m) (by rw[ANO];omega)) (bd _ (MM hb.1 m) (by rw[ANo];omega))
    (M:=λk=>DV.f k) (λx y hx hy bx bY=>by
      have kx:=AW x;have ky:=AW y;have:=ih (m+1) hmn (dg x) (dg y) (Bg (by omega)) (Bg (by omega)) (by omega) (by omega) (by omega)
      rwa [Aa hx,Aa hy] at this)
   rw[<-R4,<-R4] at go;exact Ev.bind (S7 ha m) (Ev.bind (Qq ha m) (Ev.bind (S7 hb m) (Ev.bind (Qq hb m) go)))
theorem OT {a b:List Int} (ha:Wl a) (hb:Wl b) (hla:a.length<=100000000) (hlb:b.length<=100000000):Ev (λk=>DV.f k a b) (dg (nv a*nv b)):=tD 100000000 a b ha hb hla hlb (by omega)
theorem XX {x y:Int} (hx:0<=x) (hy:0<=y) (bx:bl x<=6000000000) (bY:bl y<=6000000000):Ev (λk=>DV.f k (dg x) (dg y)) (dg (x*y)):=by
 have kx:=AW x;have ky:=AW y;have:=OT (Bg (n:=x) (by omega)) (Bg (n:=y) (by omega)) (by omega) (by omega)
 rwa [Aa hx,Aa hy] at this
theorem tE : ∀(l:List Int) (p:Nat) (v:Int),p<l.length->hv (l.set p v)=hv l+Hp p*(v-rd l (p:Int))
 | [],p,v,h=>by simp at h
 | x::t,0,v,h=>by
   show v+4294967296*hv t=x+4294967296*hv t+1*(v-x);omega
 | x::t,p+1,v,h=>by
   have ih:=tE t p v (by simpa using h);have e:rd (x::t) ((p+1:Nat):Int)=rd t (p:Int):=(by unfold rd;simp);rw[AO4,I5,I5,ih,e,ID,AOs,ANu,Int.add_assoc]
theorem ABj {l:List Int} (h:Hs l) (p:Nat) {v:Int} (h0:0<=v) (h1:v<4294967296):Hs (l.set p v):=λx hx=>by
 rcases AQR hx with h2 | h2
 · exact h x h2
 · rw[h2];exact⟨h0,h1⟩
theorem ABk (n:Nat):Hs (List.replicate n 0):=λx hx=>by rw[AQX hx];omega
theorem ABl (n:Nat):hv (List.replicate n 0)=0:=by
 induction n with
 | zero=>rfl
 | succ n ih=>rw[List.replicate_succ,I5,ih];rfl
theorem AF5 (a b:Nat):Hp (a+b)=Hp a*Hp b:=by unfold Hp;rw[ANl]
theorem kY {a b:List Int} (ha:Hs a) (hb:Hs b) (hab:a.length+b.length<=900000000) {i:Nat} (hi:i<a.length) {N:Int}
 (next : ∀z:List Int,z.length=a.length+b.length+1->Hs z->hv z=hv (a.take (i+1))*hv b->(∀p:Nat,i+1+b.length<=p->rd z (p:Int)=0)->Ev (λk=>EG.l0 k a b z (a.length:Int) ((i+1:Nat):Int)) (dg N))
 (d:Nat) : ∀(j:Nat) (z:List Int) (c:Int),j+d=b.length->z.length=a.length+b.length+1->Hs z->0<=c->c<4294967296->hv z+Hp (i+j)*c=hv (a.take i)*hv b+Hp i*(rd a (i:Int)*hv (b.take j))->(∀p:Nat,i+b.length<=p->rd z (p:Int)=0) ->
 Ev (λk=>EG.l1 k a b z (i:Int) c (a.length:Int) (i:Int) (b.length:Int) j) (dg N):=by
 have hx:=VV ha (i:Int);induction d with
 | zero =>
   intro j z c hj hz pF hc zk he h0;have HE:=Hd.mk he;clear he;have e:wrap64 ((i:Int)+(b.length:Int))=((i+b.length:Nat):Int):=(by rw[AE (by omega) (by omega)];omega);have e2:wrap64 ((i:Int)+1)=((i+1:Nat):Int):=(by rw[AE (by omega) (by omega)];omega);refine Ev.step (λk=>EG.l1.eq_2 ..) ?_;rw[e,e2];refine Ev.AP (by omega) (Ev.AK (by omega) (Ev.AK (by omega) ?_));rw[ANI];refine next _ (by simp;omega) (ABj pF _ hc zk) ?_ ?_
   · rw[tE _ _ _ (by omega),h0 _ (ANS _),E7]
     have ej:j=b.length:=(by omega);have he:=HE.out;rw[ej,ANW (ANS _)] at he;rw[Int.sub_zero,he,AOw,ANu]
   · intro p hp
     rw[IY (by omega),h0 p (by omega)]
 | succ d ih =>
   intro j z c hj hz pF hc zk he h0;have HE:=Hd.mk he;clear he;have hy:=VV hb (j:Int);have e:wrap64 ((i:Int)+(j:Int))=((i+j:Nat):Int):=(by rw[AE (by omega) (by omega)];rfl);have e2:wrap64 ((j:Int)+1)=((j+1:Nat):Int):=(by rw[AE (by omega) (by omega)];omega);refine Ev.step (λk=>EG.l1.eq_2 ..) ?_;rw[e,e2];have hPb:=HT (m:=4294967295) (n:=4294967295) hx.1 (APW hx.2) hy.1 (APW hy.2);have hP0:=hPb.1;have hP1:rd a (i:Int)*rd b (j:Int)<=18446744065119617025:=APC hPb.2 (by decide);clear hPb;have hs:=VV pF ((i+j:Nat):Int);rw[ANI];generalize hP:rd a (i:Int)*rd b (j:Int)=P at *;generalize hS:rd z ((i+j:Nat):Int)=S at *;have HP:=Hd.mk hP;have HS:=Hd.mk hS;clear hP hS hx hy;rw[DE (n:=P) (by omega) (by omega),DE (n:=c+P) (by omega) (by omega),DE (by omega) (by omega),S6 _ (by omega) (by omega)];have hq:c+P+S=4294967296*((c+P+S)/4294967296)+(c+P+S)%4294967296:=(by omega);have hq0:0<=(c+P+S)/4294967296/\(c+P+S)/4294967296<4294967296:=(by omega);have Uu:0<=(c+P+S)%4294967296/\(c+P+S)%4294967296<4294967296:=(by omega);generalize (c+P+S)/4294967296=q at *;generalize (c+P+S)%4294967296=r at *;refine Ev.AK (by omega) (Ev.AK (by omega) (Ev.AK (by omega) (Ev.AK (by omega) (Ev.AK (by omega) (Ev.AK (by omega) (Ev.AK (by omega) ?_))))));refine ih (j+1) _ _ (by omega) (by simp;omega) (ABj pF _ Uu.1 Uu.2) hq0.1 hq0.2 ?_ ?_
   · have he:=HE.out
     rw[tE _ _ _ (by omega),HS.out,E7,<-AOt,ID];have hc':c=4294967296*q+r-P-S:=(by omega);rw[hc',<-HP.out] at he;have hWa:=AF5 i j
     grind
   · intro p hp
     rw[IY (by omega),h0 p hp]
theorem kZ {a b:List Int} (ha:Hs a) (hb:Hs b) (hab:a.length+b.length<=900000000) (d:Nat) : ∀(i:Nat) (z:List Int),i+d=a.length->z.length=a.length+b.length+1->Hs z->hv z=hv (a.take i)*hv b->(∀p:Nat,i+b.length<=p->rd z (p:Int)=0) ->
 Ev (λk=>EG.l0 k a b z (a.length:Int) i) (dg (hv a*hv b)):=by
 induction d with
 | zero =>
   intro i z hi hz pF he h0;refine Ev.step (λk=>EG.l0.eq_2 ..) ?_;refine Ev.AP (by omega) ?_;rw[ANW (by omega)] at he;rw[<-he];exact Ev.bind (Mw pF (by omega)) (Ev.same rfl)
 | succ d ih =>
   intro i z hi hz pF he h0;refine Ev.step (λk=>EG.l0.eq_2 ..) ?_;refine Ev.AK (by omega) ?_;exact kY ha hb hab (by omega) (λz h1 h2 h3 h4=>ih (i+1) z (by omega) h1 h2 h3 h4) b.length 0 z 0 (by omega) hz pF (by omega) (by omega) (by simp[hv];omega) h0
theorem Xf {a b:List Int} (ha:Wl a) (hb:Wl b) (hla:a.length<=100000000) (hlb:b.length<=100000000):Ev (λk=>EG.f k a b) (dg (nv a*nv b)):=by
 obtain⟨a1,a2,a3⟩:=R0 ha.1;obtain⟨b1,b2,b3⟩:=R0 hb.1;refine Ev.bind (Fi ha (by omega)) (Ev.bind (Fi hb (by omega)) ?_);have e:wrap64 (wrap64 (((hh a).length:Int)+((hh b).length:Int))+1)=(((hh a).length+(hh b).length+1:Nat):Int):=by
  rw[AE (n:=((hh a).length:Int)+((hh b).length:Int)) (by omega) (by omega),AE (by omega) (by omega)];omega
 rw[e,ANI,<-a2,<-b2];refine Ev.AK (by omega) (Ev.AK (by omega) ?_);exact kZ a1 b1 (by omega) (hh a).length 0 _ (by omega) (by simp) (ABk _) (by rw[ABl,APZ];simp[hv]) (λp _=>o9 _ p)
theorem pG {a:List Int} (ha:Wl a) {d:Int} (um:0<d) (hd:d<18446744073709551616) (n:Nat) : ∀(Q:List Int) (R:Int),n+Q.length=a.length->Ws Q->0<=R->R<d->nv (a.drop n)=nv Q*d+R-> ∀i:Int,i=(n:Int)-1 ->
 Ev (λk=>Cx.l0 k a d (List.replicate n 0++Q) R i) (dg (nv a/d),nv a%d,true):=by
 have hal:=ha.2;induction n with
 | zero =>
   intro Q R hn hQ h0 h1 he i hi;refine Ev.step (λk=>Cx.l0.eq_2 ..) ?_;refine Ev.AP (by omega) ?_;rw[APY] at he;have hm:nv a/d=nv Q/\nv a%d=R:=by
    rw[he,AOy,ANY];exact⟨by rw[AOA _ _ (by omega),ANw h0 h1];omega,by rw[AOI,ANv h0 h1]⟩
   rw[hm.1,hm.2];exact Ev.bind (Ch (l:=Q) ⟨hQ,by omega⟩) (Ev.same rfl)
 | succ n ih =>
   intro Q R hn hQ h0 h1 he i hi;have ei:i=(n:Int):=(by omega);subst ei;have hx:=Gt ha.1 (n:Int);have e:wrap64 ((n:Int)-1)=(n:Int)-1:=AE (by omega) (by omega);have er:List.replicate (n+1) 0++Q=List.replicate n 0++(0:Int)::Q:=(by rw[AP5,AOJ];rfl);have es : ∀v,(List.replicate n 0++(0:Int)::Q).set (n:Int).toNat v=List.replicate n 0++v::Q:=λv=>by
    have:=VX (List.replicate n 0) 0 v Q;rw[AOV] at this;rw[ANI];exact this
   refine Ev.step (λk=>Cx.l0.eq_2 ..) ?_;rw[er,e];refine Ev.AK (by omega) (Ev.AK (by omega) (Ev.AK (by omega) (Ev.bind (Tv h0 h1 hd hx) (Ev.AK (by rw[ANT,AOV,ANt];omega) ?_))));dsimp only;rw[es];have hD:=ANa (R*18446744073709551616+rd a (n:Int)) d;have hm0:=ANk (R*18446744073709551616+rd a (n:Int)) (show d≠0 by omega);have hm1:=ANh (R*18446744073709551616+rd a (n:Int)) um;have hq0:0<=(R*18446744073709551616+rd a (n:Int))/d:=ANd (by have:=hx.1;omega) (by omega);have yC:(R*18446744073709551616+rd a (n:Int))/d<18446744073709551616:=by
    rw[ANm um];have:=hx.2;have h2:(R+1)*18446744073709551616<=d*18446744073709551616:=ANU (by omega) (by omega);omega
   generalize (R*18446744073709551616+rd a (n:Int))/d=q at *;generalize (R*18446744073709551616+rd a (n:Int))%d=r at *;refine ih (q::Q) r (by rw[ANt];omega) (F7.2 ⟨⟨hq0,yC⟩,hQ⟩) hm0 hm1 ?_ _ rfl;rw[IC (by omega),CI,CI,he];generalize rd a (n:Int)=x at *
   grind
theorem Xz {a:List Int} (ha:Wl a) {d:Int} (um:0<d) (hd:d<18446744073709551616):Ev (λk=>Cx.f k a d) (dg (nv a/d),nv a%d,true):=by
 have hal:=ha.2;refine Ev.AP (by omega) (Ev.AK (by omega) (Ev.AK (by rw[ANI];omega) ?_));have:=pG ha um hd a.length [] 0 (by simp) Hj (by omega) um (by rw[ANn (ANS _)];simp[nv]) (wrap64 ((a.length:Int)-1)) (AE (by omega) (by omega));rw[AOa] at this;rw[ANI];exact this
theorem pH {z0 d:List Int} (hd:Wl d) {j:Nat} {qh:Int} (hq:U qh) (hj:j+d.length<z0.length) (qT:z0.length<=1000000000) (e:Nat) : ∀(i:Nat) (z:List Int) (c b:Int),i+e=d.length->z.length=z0.length->Ws z->U c->0<=b->b<=1->nv z-Wp (j+i)*(c+b)=nv z0-Wp j*(qh*nv (d.take i))->(∀p:Nat,j+d.length<p->rd z (p:Int)=rd z0 (p:Int)) ->
 ∃(z':List Int) (b':Int),Ev (λk=>CU.l0 k z d (j:Int) qh c b d (d.length:Int) i) (b' !=0,z')/\z'.length=z0.length/\Ws z'/\0<=b'/\b'<=1/\nv z'=nv z0-Wp j*(qh*nv d)+Wp (j+d.length+1)*b'/\(∀p:Nat,j+d.length<p->rd z' (p:Int)=rd z0 (p:Int)):=by
 induction e with
 | zero =>
   intro i z c b hi hz hw hc hb0 hb1 he ha;have HE:=Hd.mk he;clear he;have ei:i=d.length:=(by omega);have ew:wrap64 ((j:Int)+(d.length:Int))=((j+d.length:Nat):Int):=(by rw[AE (by omega) (by omega)];omega);have hx:=Gt hw ((j+d.length:Nat):Int);have S:=LQ hx hc (c:=b) (by unfold U;omega);have hval:nv (z.set (j+d.length) ((rd z ((j+d.length:Nat):Int)-c-b)%18446744073709551616))=nv z0-Wp j*(qh*nv d)+Wp (j+d.length+1)*(-((rd z ((j+d.length:Nat):Int)-c-b)/18446744073709551616)):=by
    have he:=HE.out;rw[ei,AOT] at he;rw[T5 _ _ _ (by omega),DA];generalize rd z ((j+d.length:Nat):Int)=x at *;have hs:x-c-b=18446744073709551616*((x-c-b)/18446744073709551616)+(x-c-b)%18446744073709551616:=(by omega);generalize (x-c-b)/18446744073709551616=q at *;generalize (x-c-b)%18446744073709551616=r at *;have hx':x=18446744073709551616*q+r+c+b:=(by omega);rw[hx']
    grind
   refine⟨z.set (j+d.length) ((rd z ((j+d.length:Nat):Int)-c-b)%18446744073709551616),-((rd z ((j+d.length:Nat):Int)-c-b)/18446744073709551616), ?_,by rw[AN3,hz],W5 hw _ ?_, ?_, ?_,hval, ?_⟩
   · refine Ev.step (λk=>CU.l0.eq_2 ..) ?_
     rw[ew];refine Ev.AP (by omega) (Ev.AK (by omega) (Ev.AK (by omega) (Ev.AX S (Ev.same ?_))));rw[ANI]
   · unfold U;omega
   · unfold U at hx hc;omega
   · unfold U at hx hc;omega
   · intro p hp
     rw[IY (by omega)];exact ha p hp
 | succ e ih =>
   intro i z c b hi hz hw hc hb0 hb1 he ha;have HE:=Hd.mk he;clear he;have ew:wrap64 ((j:Int)+(i:Int))=((j+i:Nat):Int):=(by rw[AE (by omega) (by omega)];omega);have ew2:wrap64 ((i:Int)+1)=((i+1:Nat):Int):=(by rw[AE (by omega) (by omega)];omega);have hx:=Gt hw ((j+i:Nat):Int);have hy:=Gt hd.1 (i:Int);have M:=IG hy hq;have hP0:0<=rd d (i:Int)*qh:=ANZ hy.1 hq.1;generalize hP:rd d (i:Int)*qh=P at *;have hlo:U (P%18446744073709551616):=(by clear hP;unfold U;omega);have A:=OR hlo hc (c:=0) (by unfold U;omega);have hbd:P/18446744073709551616+(P%18446744073709551616+c+0)/18446744073709551616<18446744073709551616 :=
    pE (B:=18446744073709551616) (x:=rd d (i:Int)) (y:=qh) (s:=0) (c:=c) (hi:=P/18446744073709551616) (lo:=P%18446744073709551616) (v:=(P%18446744073709551616+c+0)%18446744073709551616) (ov:=(P%18446744073709551616+c+0)/18446744073709551616) (by omega) hy.1 hy.2 hq.1 hq.2 (by omega) (by omega) hc.1 hc.2 (by rw[hP];clear hP;omega) (by clear hP;omega) (by clear hP;omega) (by clear hP;omega)
   have HP:=Hd.mk hP;clear hP;have hs1:U ((P%18446744073709551616+c+0)%18446744073709551616):=(by unfold U;omega);have zk:U (P/18446744073709551616+(P%18446744073709551616+c+0)/18446744073709551616):=(by unfold U at hc ⊢;omega);have hcs:P+c=18446744073709551616*(P/18446744073709551616+(P%18446744073709551616+c+0)/18446744073709551616)+(P%18446744073709551616+c+0)%18446744073709551616:=(by omega);have S:=LQ hx hs1 (c:=b) (by unfold U;omega);refine(?_ : ∃(z':List Int) (b':Int),_);have ewu:IntKind.u64.wrap (P/18446744073709551616+(P%18446744073709551616+c+0)/18446744073709551616)=P/18446744073709551616+(P%18446744073709551616+c+0)/18446744073709551616:=DE zk.1 zk.2;have st : ∀ {r:Bool × List Int},Ev (λk=>CU.l0 k (z.set (j+i) ((rd z ((j+i:Nat):Int)-(P%18446744073709551616+c+0)%18446744073709551616-b)%18446744073709551616)) d (j:Int) qh (P/18446744073709551616+(P%18446744073709551616+c+0)/18446744073709551616) (-((rd z ((j+i:Nat):Int)-(P%18446744073709551616+c+0)%18446744073709551616-b)/18446744073709551616)) d (d.length:Int) ((i+1:Nat):Int)) r->Ev (λk=>CU.l0 k z d (j:Int) qh c b d (d.length:Int) i) r:=by
    intro r h;refine Ev.step (λk=>CU.l0.eq_2 ..) ?_;rw[ew,ew2];refine Ev.AK (by omega) (Ev.AK (by omega) (Ev.AK (by omega) (Ev.AX M (Ev.AX A (Ev.AK (by omega) (Ev.AK (by omega) (Ev.AX S ?_)))))));dsimp only;rw[ANI,ewu];exact h
   generalize P/18446744073709551616+(P%18446744073709551616+c+0)/18446744073709551616=c' at *;generalize (P%18446744073709551616+c+0)%18446744073709551616=s at *;clear M A S ew ew2 ewu hbd hlo;have hxs:rd z ((j+i:Nat):Int)-s-b=18446744073709551616*((rd z ((j+i:Nat):Int)-s-b)/18446744073709551616)+(rd z ((j+i:Nat):Int)-s-b)%18446744073709551616:=(by omega);obtain⟨z',b',h1,h2,h3,h4,h5,h6,h7⟩:=ih (i+1) _ c' (-((rd z ((j+i:Nat):Int)-s-b)/18446744073709551616)) (by omega) (by rw[AN3,hz]) (W5 (p:=j+i) (v:=(rd z ((j+i:Nat):Int)-s-b)%18446744073709551616) hw (by unfold U;omega)) zk (by unfold U at hx hs1;omega) (by unfold U at hx hs1;omega) (by
    have he:=HE.out;have hp:=HP.out;rw[T5 _ _ _ (by omega),Bf (by omega),<-AOt,DA];have wK:=Qo j i;generalize rd z ((j+i:Nat):Int)=x at *;generalize rd d (i:Int)=y at *;generalize (x-s-b)/18446744073709551616=q at *;generalize (x-s-b)%18446744073709551616=r at *;have hx':x=18446744073709551616*q+r+s+b:=(by omega);have hs':s=y*qh+c-18446744073709551616*c':=(by omega);rw[hx',hs']
    grind) (λp hp=>by rw[IY (by omega)];exact ha p hp)
   exact⟨z',b',st h1,h2,h3,h4,h5,h6,h7⟩
theorem pI {z0 d:List Int} (hz:Ws z0) (hd:Wl d) {j:Nat} {qh:Int} (hq:U qh) (hj:j+d.length<z0.length) (qT:z0.length<=1000000000) :
 ∃(z':List Int) (b':Int),Ev (λk=>CU.f k z0 d (j:Int) qh) (b' !=0,z')/\z'.length=z0.length/\Ws z'/\0<=b'/\b'<=1/\nv z'=nv z0-Wp j*(qh*nv d)+Wp (j+d.length+1)*b'/\(∀p:Nat,j+d.length<p->rd z' (p:Int)=rd z0 (p:Int)) :=
 pH hd hq hj qT d.length 0 z0 0 0 (by omega) rfl hz (by unfold U;omega) (by omega) (by omega) (by simp[nv]) (λ_ _=>rfl)
theorem pJ {z0 d:List Int} (hd:Wl d) {j:Nat} (hj:j+d.length<z0.length) (qT:z0.length<=1000000000) (e:Nat) : ∀(i:Nat) (z:List Int) (c:Int),i+e=d.length->z.length=z0.length->Ws z->0<=c->c<=1->nv z+Wp (j+i)*c=nv z0+Wp j*nv (d.take i)->(∀p:Nat,j+d.length<p->rd z (p:Int)=rd z0 (p:Int)) ->
 ∃(z':List Int) (o:Int),Ev (λk=>Cd.l0 k z d (j:Int) c d (d.length:Int) i) z'/\z'.length=z0.length/\Ws z'/\0<=o/\o<=1/\nv z'=nv z0+Wp j*nv d-Wp (j+d.length+1)*o/\(∀p:Nat,j+d.length<p->rd z' (p:Int)=rd z0 (p:Int)):=by
 induction e with
 | zero =>
   intro i z c hi hz hw hc zk he ha;have HE:=Hd.mk he;clear he;have ei:i=d.length:=(by omega);have ew:wrap64 ((j:Int)+(d.length:Int))=((j+d.length:Nat):Int):=(by rw[AE (by omega) (by omega)];omega);have hx:=Gt hw ((j+d.length:Nat):Int);have hval:nv (z.set (j+d.length) ((rd z ((j+d.length:Nat):Int)+c)%18446744073709551616))=nv z0+Wp j*nv d-Wp (j+d.length+1)*((rd z ((j+d.length:Nat):Int)+c)/18446744073709551616):=by
    have he:=HE.out;rw[ei,AOT] at he;rw[T5 _ _ _ (by omega),DA];generalize rd z ((j+d.length:Nat):Int)=x at *;have hs:x+c=18446744073709551616*((x+c)/18446744073709551616)+(x+c)%18446744073709551616:=(by omega);generalize (x+c)/18446744073709551616=q at *;generalize (x+c)%18446744073709551616=r at *;have hx':x=18446744073709551616*q+r-c:=(by omega);rw[hx']
    grind
   refine⟨z.set (j+d.length) ((rd z ((j+d.length:Nat):Int)+c)%18446744073709551616),(rd z ((j+d.length:Nat):Int)+c)/18446744073709551616, ?_,by rw[AN3,hz],W5 hw _ ?_, ?_, ?_,hval, ?_⟩
   · refine Ev.step (λk=>Cd.l0.eq_2 ..) ?_
     rw[ew];refine Ev.AP (by omega) (Ev.AK (by omega) (Ev.AK (by omega) (Ev.same ?_)));rw[ANI,wu]
   · unfold U;omega
   · unfold U at hx;omega
   · unfold U at hx;omega
   · intro p hp
     rw[IY (by omega)];exact ha p hp
 | succ e ih =>
   intro i z c hi hz hw hc zk he ha;have HE:=Hd.mk he;clear he;have ew:wrap64 ((j:Int)+(i:Int))=((j+i:Nat):Int):=(by rw[AE (by omega) (by omega)];omega);have ew2:wrap64 ((i:Int)+1)=((i+1:Nat):Int):=(by rw[AE (by omega) (by omega)];omega);have hx:=Gt hw ((j+i:Nat):Int);have hy:=Gt hd.1 (i:Int);have A:=OR hx hy (c:=c) (by unfold U;omega);have st : ∀ {r:List Int},Ev (λk=>Cd.l0 k (z.set (j+i) ((rd z ((j+i:Nat):Int)+rd d (i:Int)+c)%18446744073709551616)) d (j:Int) ((rd z ((j+i:Nat):Int)+rd d (i:Int)+c)/18446744073709551616) d (d.length:Int) ((i+1:Nat):Int)) r->Ev (λk=>Cd.l0 k z d (j:Int) c d (d.length:Int) i) r:=by
    intro r h;refine Ev.step (λk=>Cd.l0.eq_2 ..) ?_;rw[ew,ew2];refine Ev.AK (by omega) (Ev.AK (by omega) (Ev.AK (by omega) (Ev.AK (by omega) (Ev.AK (by omega) (Ev.AX A ?_)))));dsimp only;rw[ANI];exact h
   clear A ew ew2;obtain⟨z',b',h1,h2,h3,h4,h5,h6,h7⟩:=ih (i+1) _ ((rd z ((j+i:Nat):Int)+rd d (i:Int)+c)/18446744073709551616) (by omega) (by rw[AN3,hz]) (W5 (p:=j+i) (v:=(rd z ((j+i:Nat):Int)+rd d (i:Int)+c)%18446744073709551616) hw (by unfold U;omega))
    (by have:=hx.1;have:=hy.1;generalize rd z ((j+i:Nat):Int)=x at *;generalize rd d (i:Int)=y at *;omega) (by have:=hx.2;have:=hy.2;generalize rd z ((j+i:Nat):Int)=x at *;generalize rd d (i:Int)=y at *;omega) (by
      have he:=HE.out;rw[T5 _ _ _ (by omega),Bf (by omega),<-AOt,DA];have wK:=Qo j i;generalize rd z ((j+i:Nat):Int)=x at *;generalize rd d (i:Int)=y at *;have hq:x+y+c=18446744073709551616*((x+y+c)/18446744073709551616)+(x+y+c)%18446744073709551616:=(by omega);generalize (x+y+c)/18446744073709551616=q at *;generalize (x+y+c)%18446744073709551616=r at *;have hc':c=18446744073709551616*q+r-x-y:=(by omega);rw[hc'] at he
      grind) (λp hp=>by rw[IY (by omega)];exact ha p hp)
   exact⟨z',b',st h1,h2,h3,h4,h5,h6,h7⟩
theorem pK {z0 d:List Int} (hz:Ws z0) (hd:Wl d) {j:Nat} (hj:j+d.length<z0.length) (qT:z0.length<=1000000000) :
 ∃(z':List Int) (o:Int),Ev (λk=>Cd.f k z0 d (j:Int)) z'/\z'.length=z0.length/\Ws z'/\0<=o/\o<=1/\nv z'=nv z0+Wp j*nv d-Wp (j+d.length+1)*o/\(∀p:Nat,j+d.length<p->rd z' (p:Int)=rd z0 (p:Int)) :=
 pJ hd hj qT d.length 0 z0 0 (by omega) rfl hz (by omega) (by omega) (by simp[nv]) (λ_ _=>rfl)
theorem Qr {t r1 r2 v1 v2:Int} (ht:U t) (vo:U r1) (nL:U r2) (yK:U v1) (pL:U v2) {x:Int} (hx:U x) (hle:x*v1<=t*18446744073709551616+r1) :
 (x*v2<=(t*18446744073709551616+r1-x*v1)*18446744073709551616+r2->Ev (λk=>BF.l0 k x t r1 r2 v1 v2) x) /\
 (¬x*v2<=(t*18446744073709551616+r1-x*v1)*18446744073709551616+r2-> ∀y:Int,Ev (λk=>BF.l0 k (x-1) t r1 r2 v1 v2) y->Ev (λk=>BF.l0 k x t r1 r2 v1 v2) y):=by
 have M1:=IG hx yK;have M2:=IG hx pL;have p0:0<=x*v1:=ANZ hx.1 yK.1;have q0:0<=x*v2:=ANZ hx.1 pL.1;have q1:=HT (m:=18446744073709551615) (n:=18446744073709551615) hx.1 (APW hx.2) pL.1 (APW pL.2);have q2:x*v2<=340282366920938463426481119284349108225:=APC q1.2 (by decide);clear q1;have x0:x=0->x*v2=0:=λh=>by rw[h,AOd]
 generalize x*v1=P at *;generalize x*v2=Q at *;have S1:=LQ vo (b:=P%18446744073709551616) (by unfold U;omega) (c:=0) (by unfold U;omega);have hb:U (-((r1-P%18446744073709551616-0)/18446744073709551616)):=by unfold U at *;omega
 have S2:=LQ ht (b:=P/18446744073709551616) (by unfold U at *;omega) hb;unfold U at ht vo nL;have e1:(r1-P%18446744073709551616-0)%18446744073709551616=(t*18446744073709551616+r1-P)%18446744073709551616:=by omega
 have e2:(t-P/18446744073709551616 - -((r1-P%18446744073709551616-0)/18446744073709551616))%18446744073709551616=(t*18446744073709551616+r1-P)/18446744073709551616:=by omega
 have AM9:0<=t*18446744073709551616+r1-P:=by omega
 rw[e1] at S1;rw[e2] at S2;clear e1 e2 hb;generalize t*18446744073709551616+r1-P=m at *;have go : ∀y:Int,(Q<=m*18446744073709551616+r2->y=x)->(¬Q<=m*18446744073709551616+r2->Ev (λk=>BF.l0 k (IntKind.u64.wrap (x-1)) t r1 r2 v1 v2) y)->Ev (λk=>BF.l0 k x t r1 r2 v1 v2) y:=by
  intro y yes no;refine Ev.step (λk=>BF.l0.eq_2 ..) ?_;refine Ev.AX M1 (Ev.AX S1 (Ev.AX S2 (Ev.AX M2 ?_)));dsimp only;by_cases c1:m/18446744073709551616=0
  · refine Ev.AK c1 ?_
    by_cases c2:Q/18446744073709551616<m%18446744073709551616
    · exact Ev.AK c2 (Ev.same (by rw[yes (by omega)]))
    · refine Ev.AP c2 ?_
      by_cases c3:Q/18446744073709551616=m%18446744073709551616
      · refine Ev.AK c3 ?_
        by_cases c4:Q%18446744073709551616<=r2
        · exact Ev.AK c4 (Ev.same (by rw[yes (by omega)]))
        · exact Ev.AP c4 (no (by omega))
      · exact Ev.AP c3 (no (by omega))
  · exact Ev.AP c1 (Ev.same (by rw[yes (by omega)]))
 refine⟨λh=>go x (λ_=>rfl) (λh2=>absurd h h2),λh y hy=>go y (λh2=>absurd h2 h) (λ_=> ?_)⟩;have hx1:1<=x:=by
  rcases(show x=0\/1<=x by have:=hx.1;omega) with h0 | h0
  · exfalso
    have:=x0 h0;omega
  · exact h0
 rw[DE (by omega) (by have:=hx.2;omega)];exact hy
theorem Qs {t r1 r2 v1 v2:Int} (ht:U t) (vo:U r1) (nL:U r2) (yK:U v1) (pL:U v2) (n:Nat) : ∀x:Int,x.toNat<=n->U x->x*v1<=t*18446744073709551616+r1 ->
 ∃y:Int,Ev (λk=>BF.l0 k x t r1 r2 v1 v2) y/\0<=y/\y<=x/\y*(v1*18446744073709551616+v2)<=(t*18446744073709551616+r1)*18446744073709551616+r2/\(y=x\/(t*18446744073709551616+r1)*18446744073709551616+r2<(y+1)*(v1*18446744073709551616+v2)):=by
 have T0:0<=t*18446744073709551616+r1:=by have:=ht.1;have:=vo.1;omega
 have key : ∀x:Int,x*(v1*18446744073709551616+v2)=x*v1*18446744073709551616+x*v2:=λx=>by grind
 induction n with
 | zero =>
   intro x hn hx hle;have h0:x=0:=(by have:=hx.1;omega);have h:=(Qr ht vo nL yK pL hx hle).1 (by rw[h0,AOd,AOd];have:=nL.1;omega);exact⟨x,h,hx.1,APF _,by rw[h0,AOd];have:=nL.1;omega, .inl rfl⟩
 | succ n ih =>
   intro x hn hx hle;obtain⟨s1,s2⟩:=Qr ht vo nL yK pL hx hle;have hk:=key x;by_cases h:x*v2<=(t*18446744073709551616+r1-x*v1)*18446744073709551616+r2
   · exact⟨x,s1 h,hx.1,APF _,by rw[hk];omega, .inl rfl⟩
   · have x0:x=0->x*v2=0/\x*v1=0:=λh=>by rw[h,AOd,AOd];exact⟨rfl,rfl⟩
     have hx1:1<=x:=by
      rcases(show x=0\/1<=x by have:=hx.1;omega) with h0 | h0
      · exfalso
        have:=x0 h0;have:=nL.1;omega
      · exact h0
     have hm:(x-1)*v1=x*v1-v1:=(by rw[AQj,AOl]);obtain⟨y,h1,h2,h3,h4,h5⟩:=ih (x-1) (by omega) ⟨by omega,by have:=hx.2;omega⟩ (by rw[hm];have:=yK.1;omega);refine⟨y,s2 h y h1,h2,by omega,h4, .inr ?_⟩;rcases h5 with h5 | h5
     · rw[h5,Int.sub_add_cancel,hk];omega
     · exact h5
theorem ke {z:List Int} (hz:Ws z) (hl:z.length<=1000000000) {p:Nat} (Lg:2<=p) (hp:p<z.length) {v1 v2:Int} (yK:U v1) (pL:U v2) (hv0:0<v1) (xU:rd z (p:Int)<=v1) :
 ∃y:Int,Ev (λk=>FD.f k z (p:Int) v1 v2) y/\U y /\
  y*(v1*18446744073709551616+v2)<=(rd z (p:Int)*18446744073709551616+rd z ((p-1:Nat):Int))*18446744073709551616+rd z ((p-2:Nat):Int) /\
  (y=18446744073709551615\/(rd z (p:Int)*18446744073709551616+rd z ((p-1:Nat):Int))*18446744073709551616+rd z ((p-2:Nat):Int)<(y+1)*(v1*18446744073709551616+v2)):=by
 have ht:=Gt hz (p:Int);have h1:=Gt hz ((p-1:Nat):Int);have h2:=Gt hz ((p-2:Nat):Int);have e1:wrap64 ((p:Int)-1)=((p-1:Nat):Int):=by rw[AE (by omega) (by omega)];omega
 have e2:wrap64 ((p:Int)-2)=((p-2:Nat):Int):=by rw[AE (by omega) (by omega)];omega
 have st : ∀y:Int,(rd z (p:Int)>=v1->Ev (λk=>BF.l0 k 18446744073709551615 (rd z (p:Int)) (rd z ((p-1:Nat):Int)) (rd z ((p-2:Nat):Int)) v1 v2) y) ->
  (¬rd z (p:Int)>=v1->Ev (λk=>BF.l0 k ((rd z (p:Int)*18446744073709551616+rd z ((p-1:Nat):Int))/v1) (rd z (p:Int)) (rd z ((p-1:Nat):Int)) (rd z ((p-2:Nat):Int)) v1 v2) y)->Ev (λk=>FD.f k z (p:Int) v1 v2) y:=by
  intro y f1 f2;unfold FD.f;rw[e1,e2];refine Ev.AK (by omega) (Ev.AK (by omega) (Ev.AK (by omega) (Ev.AK (by omega) (Ev.AK (by omega) (Ev.AK (by omega) ?_)))));by_cases h:rd z (p:Int)>=v1
  · exact Ev.AK h (Ev.bind (f1 h) (Ev.same rfl))
  · exact Ev.AP h (Ev.bind (Tv ht.1 (by omega) yK.2 h1) (Ev.bind (f2 h) (Ev.same rfl)))
 clear e1 e2;generalize rd z (p:Int)=t at *;generalize rd z ((p-1:Nat):Int)=r1 at *;generalize rd z ((p-2:Nat):Int)=r2 at *;by_cases h:t>=v1
 · have et:t=v1:=by omega
   obtain⟨y,y1,y2,y3,y4,y5⟩:=Qs ht h1 h2 yK pL 18446744073709551615 18446744073709551615 (by decide) (by unfold U;omega) (by have:=h1.1;omega);exact⟨y,st y (λ_=>y1) (λh2=>absurd h h2),⟨y2,by omega⟩,y4,y5⟩
 · have hx0:0<=(t*18446744073709551616+r1)/v1:=ANd (by have:=ht.1;have:=h1.1;omega) (by omega)
   have hD:=ANa (t*18446744073709551616+r1) v1;have hm0:=ANk (t*18446744073709551616+r1) (show v1≠0 by omega);have hm1:=ANh (t*18446744073709551616+r1) hv0;have hx1:(t*18446744073709551616+r1)/v1<18446744073709551616:=by
    rw[ANm hv0];have:=h1.2;have h3:(t+1)*18446744073709551616<=v1*18446744073709551616:=ANU (by omega) (by omega);omega
   generalize hx:(t*18446744073709551616+r1)/v1=x at *;rw[ANY] at hD;obtain⟨y,y1,y2,y3,y4,y5⟩:=Qs ht h1 h2 yK pL x.toNat x (ANS _) ⟨hx0,hx1⟩ (by omega);refine⟨y,st y (λh2=>absurd h2 h) (λ_=>y1),⟨y2,by omega⟩,y4, .inr ?_⟩;rcases y5 with y5 | y5
   · have h3:t*18446744073709551616+r1+1<=(y+1)*v1:=by rw[y5,AOw,AOl];omega
     have h4:(y+1)*(v1*18446744073709551616+v2)=(y+1)*v1*18446744073709551616+(y+1)*v2:=(by grind);have h5:0<=(y+1)*v2:=ANZ (by omega) pL.1;have:=h2.2;rw[h4];generalize (y+1)*v1=e at *;generalize (y+1)*v2=f at *;omega
   · exact y5
theorem cA : ∀ {l:List Int},Ws l->nv l=0-> ∀p:Nat,rd l (p:Int)=0
 | [],_,_,p=>by unfold rd;simp
 | x::t,h,h0,p=>by
   obtain⟨hx,ht⟩:=F7.1 h;have hn:=AN ht;rw[CI] at h0;have:=hx.1;cases p with
   | zero=>show x=0;omega
   | succ p =>
     have e:rd (x::t) ((p+1:Nat):Int)=rd t (p:Int):=(by unfold rd;simp);rw[e];exact cA ht (by omega) p
theorem T6 : ∀ {l:List Int},(∀p:Nat,rd l (p:Int)=0)->nv l=0
 | [],_=>rfl
 | x::t,h=>by
   have h0:x=0:=h 0;have ht:nv t=0:=T6 λp=>by
    have e:rd (x::t) ((p+1:Nat):Int)=rd t (p:Int):=(by unfold rd;simp);rw[<-e];exact h (p+1)
   rw[CI,h0,ht];rfl
theorem kf (l:List Int) (k p:Nat):rd (l.drop k) (p:Int)=rd l ((k+p:Nat):Int):=by
 unfold rd;rw[ANJ,ANJ,ANI,ANI,ANj]
theorem T7 {l:List Int} (h:Ws l) {k:Nat} (hlt:nv l<Wp k) : ∀p:Nat,k<=p->rd l (p:Int)=0:=by
 intro p hp;have h1:=Nb h k;rw[ANw (AN h) hlt] at h1;have h2:=cA (MM h k) h1.symm (p-k);rw[kf,show k+(p-k)=p by omega] at h2;exact h2
theorem pM {l:List Int} (h:Ws l) {k:Nat} (h0 : ∀p:Nat,k<=p->rd l (p:Int)=0):nv l<Wp k:=by
 have h1:nv (l.drop k)=0:=T6 λp=>by rw[kf];exact h0 _ (by omega)
 have h2:=Nb h k;rw[h1] at h2;have h3:=ANa (nv l) (Wp k);have h4:=ANh (nv l) (Ej k);rw[h2] at h3;omega
theorem AJC {J K D R T v low dl y:Int} (hJ:0<J) (hK:0<K) (hR:R=T*(J*K)+low) (hl0:0<=low) (hl1:low<J*K) (hD:D=v*K+dl) (um:0<=dl) (hd1:dl<K) (hv:18446744073709551616<=v) (hy0:0<=y) (hy1:y<18446744073709551616)
 (h1:y*v<=T) (h2:y=18446744073709551615\/T<(y+1)*v) (h3:R<D*J*18446744073709551616):R<J*(D*(y+1))/\J*(D*(y-1))<=R:=by
 have hJK:0<J*K:=AOY hJ hK;have hvD:v*K<=D:=by omega
 have hT0:0<=T:=APC (ANZ hy0 (by omega)) h1;constructor
 · rcases h2 with h2 | h2
   · rw[h2,show J*(D*(18446744073709551615+1))=D*J*18446744073709551616 by grind];exact h3
   · have a1:(T+1)*(J*K)<=(y+1)*v*(J*K):=ANU (by omega) (ANL hJK)
     have a2:J*(y+1)*(v*K)<=J*(y+1)*D:=ANe hvD (ANZ (ANL hJ) (by omega));have a3:(y+1)*v*(J*K)=J*(y+1)*(v*K):=(by grind);have a4:J*(D*(y+1))=J*(y+1)*D:=(by grind);rw[AOw,AOl] at a1;omega
 · have r0:0<=R:=by have:=ANZ hT0 (ANL hJK);omega
   rcases(show y=0\/1<=y by omega) with h | h
   · have hD0:0<=D:=by have:=ANZ (show 0<=v by omega) (ANL hK);omega
     have:J*(D*(y-1))= -(J*D):=(by rw[h];grind);have h5:=ANZ (ANL hJ) hD0;omega
   · have b1:D<=(v+1)*K:=by rw[AOw,AOl];omega
     have b2:(y-1)*D<=(y-1)*((v+1)*K):=ANe b1 (by omega);have b3:(y-1)*(v+1)<=y*v:=by
      have:(y-1)*(v+1)=y*v-v+y-1:=(by grind);omega
     have b4:(y-1)*(v+1)*K<=T*K:=ANU (APC b3 h1) (ANL hK);have b5:(y-1)*D<=T*K:=(by rw[<-ANu] at b2;omega);have b6:=ANe b5 (ANL hJ);have b7:J*(D*(y-1))=J*((y-1)*D):=(by rw[ANY D]);have b8:J*(T*K)=T*(J*K):=(by grind);omega
theorem xV {l:List Int} (h:Ws l) {p:Nat} (h2:2<=p) (hp:p<l.length) (hz:nv l<Wp (p+1)) :
 ∃low:Int,0<=low/\low<Wp (p-2)/\nv l=((rd l (p:Int)*18446744073709551616+rd l ((p-1:Nat):Int))*18446744073709551616+rd l ((p-2:Nat):Int))*Wp (p-2)+low:=by
 refine⟨nv (l.take (p-2)),AN (Dw h _), ?_, ?_⟩
 · have:=KB (Dw h (p-2))
   rwa [ANO,ANb (by omega)] at this
 · have h0:nv (l.drop (p+1))=0:=T6 λq=>by rw[kf];exact T7 h hz _ (by omega)
   have e1:=IC (l:=l) (i:=p-2) (by omega);have e2:=IC (l:=l) (i:=p-1) (by omega);have e3:=IC (l:=l) (i:=p) hp;have e4:=R4 l (p-2);rw[e1,show p-2+1=p-1 by omega,e2,show p-1+1=p by omega,e3,CI,CI,CI,h0] at e4;rw[e4]
   grind
theorem ADT {l:List Int} (h:Ws l) (h2:2<=l.length) :
 ∃low:Int,0<=low/\low<Wp (l.length-2)/\nv l=(rd l ((l.length-1:Nat):Int)*18446744073709551616+rd l ((l.length-2:Nat):Int))*Wp (l.length-2)+low:=by
 refine⟨nv (l.take (l.length-2)),AN (Dw h _), ?_, ?_⟩
 · have:=KB (Dw h (l.length-2))
   rwa [ANO,ANb (by omega)] at this
 · have e1:=IC (l:=l) (i:=l.length-2) (by omega)
   have e2:=IC (l:=l) (i:=l.length-1) (by omega);have e4:=R4 l (l.length-2);rw[e1,show l.length-2+1=l.length-1 by omega,e2,show l.length-1+1=l.length by omega,List.drop_length,CI,CI] at e4;rw[e4];show _+_*(_+18446744073709551616*(_+18446744073709551616*0))=_
   grind
theorem cB {d:List Int} (hd:Wl d) (hn:2<=d.length) (hv:9223372036854775808<=rd d ((d.length-1:Nat):Int)) {j:Nat} {r:List Int} (hr:Ws r) (hlen:j+d.length<r.length) (mZ:r.length<=1000000000) (hlt:nv r<nv d*Wp (j+1)) :
 ∃(y:Int),(Ev (λk=>FD.f k r ((j+d.length:Nat):Int) (rd d ((d.length-1:Nat):Int)) (rd d ((d.length-2:Nat):Int))) y) /\
  ((∃r':List Int,Ev (λk=>CU.f k r d (j:Int) y) (false,r')/\r'.length=r.length/\Ws r'/\U y/\nv r=nv r'+Wp j*(y*nv d)/\nv r'<nv d*Wp j) \/
   (∃z r':List Int,Ev (λk=>CU.f k r d (j:Int) y) (true,z)/\Ev (λk=>Cd.f k z d (j:Int)) r'/\r'.length=r.length/\Ws r'/\1<=y/\U y/\nv r=nv r'+Wp j*((y-1)*nv d)/\nv r'<nv d*Wp j)):=by
 have hD:=KB hd.1;have hJ:=Ej j;have hR0:=AN hr;have hD0:=AN hd.1;have AAU:nv r<Wp (j+d.length+1):=by
  have h1:nv d*Wp (j+1)<=Wp d.length*Wp (j+1):=ANU (ANL hD) (ANL (Ej _));rw[<-Qo,show d.length+(j+1)=j+d.length+1 by omega] at h1;omega
 obtain⟨low,hl0,hl1,hlR⟩:=xV hr (p:=j+d.length) (by omega) hlen AAU;obtain⟨dl,um,hd1,hdD⟩:=ADT hd.1 hn;have yK:=Gt hd.1 ((d.length-1:Nat):Int);have pL:=Gt hd.1 ((d.length-2:Nat):Int);have hK:=Ej (d.length-2);have ADU:Wp (j+d.length-2)=Wp j*Wp (d.length-2):=by rw[<-Qo];congr 1;omega
 have xU:rd r ((j+d.length:Nat):Int)<=rd d ((d.length-1:Nat):Int):=by
  have hx2:=(Gt hr ((j+d.length-1:Nat):Int)).1;have hx3:=(Gt hr ((j+d.length-2:Nat):Int)).1;have h1:(nv r)<(rd d ((d.length-1:Nat):Int)*18446744073709551616+rd d ((d.length-2:Nat):Int)+1)*Wp (d.length-2)*Wp (j+1):=by
   refine Int.lt_of_lt_of_le hlt (ANU ?_ (ANL (Ej _)));rw[hdD,AOw (_*_+_) 1,AOl];omega
  have h2:(rd d ((d.length-1:Nat):Int)*18446744073709551616+rd d ((d.length-2:Nat):Int)+1)*Wp (d.length-2)*Wp (j+1)=(rd d ((d.length-1:Nat):Int)*18446744073709551616+rd d ((d.length-2:Nat):Int)+1)*18446744073709551616*Wp (j+d.length-2):=by
   rw[ADU,DA];grind
  have h3:((rd r ((j+d.length:Nat):Int)*18446744073709551616+rd r ((j+d.length-1:Nat):Int))*18446744073709551616+rd r ((j+d.length-2:Nat):Int))*Wp (j+d.length-2)<(rd d ((d.length-1:Nat):Int)*18446744073709551616+rd d ((d.length-2:Nat):Int)+1)*18446744073709551616*Wp (j+d.length-2):=by
   rw[<-h2];omega
  have h4:=AQF h3 (ANL (Ej _));have:=pL.2;clear h1 h2 h3 hlt hlR hdD hl1 hd1 ADU AAU;generalize rd r ((j+d.length:Nat):Int)=a at *;generalize rd r ((j+d.length-1:Nat):Int)=b at *;generalize rd r ((j+d.length-2:Nat):Int)=c at *;generalize rd d ((d.length-1:Nat):Int)=e at *;generalize rd d ((d.length-2:Nat):Int)=f at *;omega
 obtain⟨y,g1,g2,g3,g4⟩:=ke hr mZ (p:=j+d.length) (by omega) hlen yK pL (by omega) xU;obtain⟨k1,k2⟩:=AJC hJ hK (R:=nv r) (D:=nv d) (by rw[<-ADU];exact hlR) hl0 (by rw[<-ADU];exact hl1) hdD um hd1 (by have:=pL.1;omega) g2.1 g2.2 g3 g4 (by
  have:nv d*Wp j*18446744073709551616=nv d*Wp (j+1):=by rw[DA];grind
  rw[this];exact hlt)
 obtain⟨z,b,t1,t2,t3,t4,t5,t6,t7⟩:=pI hr hd g2 hlen mZ;have zlt:=pM t3 (k:=j+d.length+1) (λp hp=>by rw[t7 p (by omega)];exact T7 hr AAU p hp);have z0:=AN t3;refine⟨y,g1, ?_⟩;have hyD:Wp j*(nv d*(y+1))=Wp j*(y*nv d)+nv d*Wp j:=by grind
 have AMP:Wp j*(nv d*(y-1))=Wp j*(y*nv d)-Wp j*nv d:=by grind
 have AMj:nv d*Wp j=Wp j*nv d:=ANY _ _;rcases(show b=0\/b=1 by omega) with hb | hb
 · subst hb
   rw[AOR,AOS] at t6;exact .inl ⟨z,t1,t2,t3,g2,by omega,by omega⟩
 · subst hb
   obtain⟨r',o,s1,s2,s3,s4,s5,s6,s7⟩:=pK t3 hd (by rw[t2];exact hlen) (by omega);have rlt:=pM s3 (k:=j+d.length+1) (λp hp=>by rw[s7 p (by omega),t7 p (by omega)];exact T7 hr AAU p hp);have r0:=AN s3;have ho:o=1:=by
    rcases(show o=0\/o=1 by omega) with h | h
    · subst h;omega
    · exact h
   subst ho;have hy1:1<=y:=by
    rcases(show y=0\/1<=y by have:=g2.1;omega) with h | h
    · exfalso
      have:Wp j*(y*nv d)=0:=(by rw[h,AOd,AOR]);omega
    · exact h
   have ANA:Wp j*((y-1)*nv d)=Wp j*(y*nv d)-Wp j*nv d:=(by rw[<-AMP,ANY (nv d)]);exact .inr ⟨z,r',t1,s1,by omega,s3,hy1,g2,by omega,by omega⟩
theorem kg {d:List Int} (hd:Wl d) (hn:2<=d.length) (hv:9223372036854775808<=rd d ((d.length-1:Nat):Int)) {s:Nat} (hs:s<=63) {A:Int} (m:Nat) : ∀(r Q:List Int),Ws r->m+d.length<=r.length->r.length<=1000000000->Ws Q->m+Q.length<=1000000000->nv r<nv d*Wp m->A=nv r+Wp m*(nv Q*nv d)-> ∀i:Int,i=(m:Int)-1 ->
 Ev (λk=>Bi.l1 k (s:Int) d r (d.length:Int) (List.replicate m 0++Q) i) (dg (A/nv d),dg (A%nv d/2^s)):=by
 induction m with
 | zero =>
   intro r Q hr hl mZ hQ hQl hlt he i hi;have r0:=AN hr;rw[ML,ANr] at hlt;rw[ML,AOl] at he;have hq:A/nv d=nv Q:=(by rw[he,ANY,AOA _ _ (by omega),ANw r0 hlt];omega);have hm:A%nv d=nv r:=(by rw[he,ANY,AOI,ANv r0 hlt]);have S:=fc (a:=r) ⟨hr,mZ⟩ (n:=(s:Int)) (by omega);rw[ANI] at S;refine Ev.step (λk=>Bi.l1.eq_2 ..) ?_;rw[hq,hm];exact Ev.AP (by omega) (Ev.bind (Ch (l:=Q) ⟨hQ,by omega⟩) (Ev.bind S (Ev.same rfl)))
 | succ j ih =>
   intro r Q hr hl mZ hQ hQl hlt he i hi;have ei:i=(j:Int):=(by omega);subst ei;have HE:=Hd.mk he;have HL:=Hd.mk hlt;have HV:=Hd.mk hv;clear he hlt hv;have e1:wrap64 ((d.length:Int)-1)=((d.length-1:Nat):Int):=(by rw[AE (by omega) (by omega)];omega);have e2:wrap64 ((d.length:Int)-2)=((d.length-2:Nat):Int):=(by rw[AE (by omega) (by omega)];omega);have e3:wrap64 ((j:Int)+(d.length:Int))=((j+d.length:Nat):Int):=(by rw[AE (by omega) (by omega)];omega);have e4:wrap64 ((j:Int)-1)=(j:Int)-1:=AE (by omega) (by omega);have er:List.replicate (j+1) 0++Q=List.replicate j 0++(0:Int)::Q:=(by rw[AP5,AOJ];rfl);have es : ∀v,(List.replicate j 0++(0:Int)::Q).set (j:Int).toNat v=List.replicate j 0++v::Q:=λv=>by
    have:=VX (List.replicate j 0) 0 v Q;rw[AOV] at this;rw[ANI];exact this
   have el:(List.replicate j 0++(0:Int)::Q).length=j+1+Q.length:=(by rw[ANT,AOV,ANt];omega);obtain⟨y,g,h⟩:=cB hd hn HV.out hr (j:=j) (by omega) mZ HL.out;refine Ev.step (λk=>Bi.l1.eq_2 ..) ?_;rw[e1,e2,e3,e4,er];refine Ev.AK (by omega) (Ev.AK (by omega) (Ev.AK (by omega) (Ev.AK (by omega) (Ev.AK (by omega) (Ev.bind g ?_)))));have hval : ∀(q v:Int),nv r=v+Wp j*(q*nv d)->A=v+Wp j*(nv (q::Q)*nv d):=by
    intro q v pL;rw[HE.out,pL,CI,DA]
    grind
   rcases h with⟨r',t1,t2,t3,t4,t5,t6⟩ | ⟨z,r',t1,b1,t2,t3,t0,t4,t5,t6⟩
   · have h2:=ih r' (y::Q) t3 (by omega) (by omega) (F7.2 ⟨t4,hQ⟩) (by rw[ANt];omega) t6 (hval _ _ t5) _ rfl
     refine Ev.bind t1 (Ev.AP (by simp) (Ev.AK (by omega) (Ev.AK (by rw[el];omega) ?_)));rw[es];exact h2
   · have h2:=ih r' ((y-1)::Q) t3 (by omega) (by omega) (F7.2 ⟨⟨by omega,by have:=t4.2;omega⟩,hQ⟩) (by rw[ANt];omega) t6 (hval _ _ t5) _ rfl
     refine Ev.bind t1 (Ev.AK rfl (Ev.bind b1 (Ev.AK (by omega) (Ev.AK (by rw[el];omega) ?_))));rw[es,DE (by omega) (by have:=t4.2;omega)];exact h2
theorem AF6 (l:List Int) (n:Nat):nv (l++List.replicate n 0)=nv l:=by rw[bV,Qp];omega
theorem kj {a d:List Int} (hla:a.length<=900000000) (hd:Wl d) (hn:2<=d.length) (hda:d.length<=a.length) (hv:9223372036854775808<=rd d ((d.length-1:Nat):Int)) {s:Nat} (hs:s<=63) (e:Nat) : ∀r:List Int,Ws r->r.length+e=a.length+1->nv r<nv d*Wp (a.length+1-d.length) ->
 Ev (λk=>Bi.l0 k a (s:Int) d r) (dg (nv r/nv d),dg (nv r%nv d/2^s)):=by
 induction e with
 | zero =>
   intro r hr hl hlt;have HL:=Hd.mk hlt;have HV:=Hd.mk hv;clear hlt hv;have e1:wrap64 ((a.length:Int)+1)=((a.length+1:Nat):Int):=(by rw[AE (by omega) (by omega)];omega);have e2:wrap64 ((r.length:Int)-(d.length:Int))=((a.length+1-d.length:Nat):Int):=(by rw[AE (by omega) (by omega)];omega);have e3:wrap64 (((List.replicate (a.length+1-d.length) (0:Int)).length:Int)-1)=((a.length+1-d.length:Nat):Int)-1:=(by rw[AOV,AE (by omega) (by omega)]);have h:=kg hd hn HV.out hs (A:=nv r) (a.length+1-d.length) r [] hr (by omega) (by omega) Hj (by simp;omega) HL.out (by simp[nv]) _ rfl;rw[AOa] at h;refine Ev.step (λk=>Bi.l0.eq_2 ..) ?_;rw[e1,e2,ANI];refine Ev.AP (by omega) (Ev.AK (by omega) (Ev.AK (by omega) (Ev.AX rfl ?_)));rw[e3];exact h
 | succ e ih =>
   intro r hr hl hlt;have e1:wrap64 ((a.length:Int)+1)=((a.length+1:Nat):Int):=(by rw[AE (by omega) (by omega)];omega);have hp:nv (r++ [0])=nv r:=AF6 r 1;have h:=ih (r++ [0]) (Wy.2 ⟨hr,JZ ⟨by omega,by omega⟩⟩) (by rw[ANT];show r.length+1+e=_;omega) (by rw[hp];exact hlt);rw[hp] at h;clear hlt hp ih;refine Ev.step (λk=>Bi.l0.eq_2 ..) ?_;rw[e1];exact Ev.AK (by omega) (Ev.AK (by omega) h)
theorem pN {A B:Int} (hB:0<B) (hAB:B<=A) (hn:2<=(dg B).length) (hA:bl A<=50000000000):Ev (λk=>Bi.f k (dg A) (dg B)) (dg (A/B),dg (A%B)):=by
 have hBA:=Bv hAB;have wA:=Bg (n:=A) (by omega);have wB:=Bg (n:=B) (by omega);have kA:=AW A;have kB:=AW B;have vA:=Aa (n:=A) (by omega);have vB:=Aa (n:=B) (by omega);have bp:=DY hB;have b1:=Gf B;have b2:=VE hB;have b3:=NZ (n:=B) (by omega);have b4:=Wz hB;have a1:=NZ (n:=A) (by omega);obtain⟨n,hN⟩ : ∃n,n=(dg B).length:=⟨_,rfl⟩;obtain⟨la,hla⟩ : ∃la,la=(dg A).length:=⟨_,rfl⟩;rw[<-hN] at b3 b4 hn;rw[<-hla] at a1;have ANB:bl B<=64*n:=by rw[F6] at b3;have:=Bw b3;omega
 have ANC:64*(n:Int)<=bl B+63:=by omega
 have nB:n<=la:=by
  rcases ANs la n with h | h
  · exfalso
    have:=bU (show la<=n-1 by omega);omega
  · exact h
 obtain⟨s,hs⟩ : ∃s:Nat,(s:Int)=64*n-bl B:=⟨(64*(n:Int)-bl B).toNat,by omega⟩;have AF2:s<=63:=by omega
 have ps:=pow_pos s;have es:wrap64 (wrap64 (64*((dg B).length:Int))-bl B)=(s:Int):=by
  rw[<-hN,AE (n:=64*(n:Int)) (by omega) (by omega),AE (by omega) (by omega)];omega
 have ES:=Hd.mk es;clear es;have hD1:B*2^s<Wp n:=by
  have h:=AOL b1 ps;rw[<-ANl,show(bl B).toNat+s=64*n by omega,<-F6] at h;exact h
 have hD2:9223372036854775808*Wp (n-1)<=B*2^s:=by
  have h:=ANU b2 (ANL ps);rw[<-ANl,show(bl B-1).toNat+s=63+64*(n-1) by omega,ANl,<-F6] at h;exact h
 have pn:=Ej (n-1);have ABm:(dg (B*2^s)).length=n:=by
  have h1:=LC hD1;have h2:=gD (n:=B*2^s) (m:=n-1) (by omega);omega
 have hDp:0<B*2^s:=AOY hB ps;have vD:=Aa (ANL hDp);have hAp:0<=A*2^s:=ANZ (by omega) (ANL ps);have vAs:=Aa hAp;have hA1:A*2^s<Wp la*2^s:=AOL a1 ps;have h2s:(2:Int)^s<=2^63:=Az AF2;have hA2:Wp la*2^s<=Wp la*2^63:=ANe h2s (ANL (Ej la));have AMk:(dg (A*2^s)).length<=la+1:=by
  refine LC ?_;rw[DA];have:=Ej la;omega
 have AMQ:Wp la=Wp (n-1)*Wp (la+1-n):=by rw[<-Qo];congr 1;omega
 have hlt:nv (dg (A*2^s))<nv (dg (B*2^s))*Wp (la+1-n):=by
  rw[vD,vAs];have h:=ANU hD2 (ANL (Ej (la+1-n)));rw[ANu,<-AMQ] at h;omega
 have xU:9223372036854775808<=rd (dg (B*2^s)) (((dg (B*2^s)).length-1:Nat):Int):=by
  have h1:=Bf (l:=dg (B*2^s)) (i:=n-1) (by omega);rw[ANW (by omega),vD] at h1;have h2:=KB (Dw (PS (B*2^s)) (n-1));rw[ANO,ABm,ANb (by omega)] at h2;rw[ABm];have h3:9223372036854775808*Wp (n-1)<(rd (dg (B*2^s)) ((n-1:Nat):Int)+1)*Wp (n-1):=by
   rw[AOw,AOl,ANY (rd _ _)];omega
  have:=AQF h3 (ANL pn);omega
 have hB':=F0 wB;rw[vB] at hB';have hS1:=Rp wB (by omega) (s:Int);have hS2:=Rp wA (by omega) (s:Int);rw[Tt (by omega) (by omega),ANI,vB] at hS1;rw[Tt (by omega) (by omega),ANI,vA] at hS2;have main:=kj (a:=dg A) (d:=dg (B*2^s)) (by omega) ⟨PS _,by omega⟩ (by omega) (by omega) xU AF2 (la+1-(dg (A*2^s)).length) (dg (A*2^s)) (PS _) (by omega) (by rw[ABm,<-hla];exact hlt);rw[vD,vAs,AP7 _ _ ps,ANY A,ANY B,AOx _ _ ps,APh _ (by omega),ANY _ A,ANY _ B] at main;unfold Bi.f;refine Ev.bind hB' ?_;rw[ES.out];exact Ev.bind hS1 (Ev.bind hS2 main)
theorem OM {a b:List Int} (ha:Wl a) (hb:Wl b) (hla:a.length<=700000000) :
 Ev (λk=>GK.f k a b) (if nv b=0 then([],[],false) else(dg (nv a/nv b),dg (nv a%nv b),true)):=by
 have na:=AN ha.1;have nb:=AN hb.1;have ba:=Fg ha.1;refine Ev.bind (Ch ha) (Ev.bind (Ch hb) ?_);by_cases h0:nv b=0
 · rw[if_pos h0,h0]
   exact Ev.AK rfl (Ev.same rfl)
 · rw[if_neg h0]
   have hl:((dg (nv b)).length:Int)≠0:=λh=>h0 ((C5 nb).1 (by omega))
   have wa:=Bg (n:=nv a) (by omega);have wb:Wl (dg (nv b)):=⟨PS _,by have:=xS hb.1;have:=hb.2;omega⟩;have C:=Ry wa wb;rw[Aa na,Aa nb] at C;refine Ev.AP hl (Ev.bind C ?_);by_cases h1:nv a<nv b
   · rw[ZN h1,ANw na h1,ANv na h1]
     exact Ev.AK (by omega) (Ev.same rfl)
   · have hc : ¬GD (nv a) (nv b)<0:=by unfold GD;rw[if_neg h1];split<;>omega
     refine Ev.AP hc ?_;by_cases h2:((dg (nv b)).length:Int)=1
     · have hb1:nv b<18446744073709551616:=by
        have:=NZ nb;rw[show(dg (nv b)).length=1 by omega,DA,ML] at this;omega
       have e:dg (nv b)= [nv b]:=by
        rw[LN (by omega),show nv b/18446744073709551616=0 by omega,G8,show nv b%18446744073709551616=nv b by omega]
       have hq:=Xz wa (d:=nv b) (by omega) hb1;rw[Aa na] at hq;have hm0:=ANk (nv a) h0;have hm1:=ANh (nv a) (show 0<nv b by omega);have er:rd (dg (nv b)) 0=nv b:=(by rw[e];rfl);refine Ev.AK h2 (Ev.AK (by omega) ?_);rw[er];exact Ev.bind hq (Ev.bind (QT (x:=nv a%nv b) ⟨hm0,by omega⟩) (Ev.same rfl))
     · exact Ev.AP h2 (Ev.bind (pN (by omega) (by omega) (by omega) (by omega)) (Ev.same rfl))
def IF (A r:Int):Prop:=0<=r/\r*r<=A/\A<(r+1)*(r+1)
theorem ZK {A:Int} (h:0<=A) : ∃r,IF A r:=by
 obtain⟨n,rfl⟩:=ANR h;induction n with
 | zero=>exact⟨0,by omega,by omega,by omega⟩
 | succ n ih =>
   obtain⟨r,h1,h2,h3⟩:=ih (by omega);by_cases h4:(r+1)*(r+1)<=((n+1:Nat):Int)
   · refine⟨r+1,by omega,h4, ?_⟩
     have:(r+1+1)*(r+1+1)=(r+1)*(r+1)+2*r+3:=(by grind);omega
   · exact⟨r,h1,by omega,by omega⟩
theorem AEU {a b:Int} (ha:0<=a) (h:a<=b):a*a<=b*b:=APs h h ha (by omega)
theorem AAO {a b:Int} (hb:0<=b) (h:a*a<=b*b):a<=b:=by
 rcases AN7 b a with h1 | h1
 · have:=AEU (a:=b+1) (b:=a) (by omega) (by omega)
   have e:(b+1)*(b+1)=b*b+2*b+1:=(by grind);omega
 · exact h1
theorem Eg {a b:Int} (hb:0<=b) (h:a*a<b*b):a<b:=by
 rcases AN7 a b with h1 | h1
 · exact h1
 · have:=AEU hb h1
   omega
theorem nx {A r s:Int} (h:IF A r) (h':IF A s):r=s:=by
 obtain⟨a0,a1,a2⟩:=h;obtain⟨b0,b1,b2⟩:=h';have:=Eg (a:=r) (b:=s+1) (by omega) (by omega);have:=Eg (a:=s) (b:=r+1) (by omega) (by omega);omega
def fx (b:Int):Int:=b/4503599627370496%2048
def fr (b:Int):Int:=b%4503599627370496
def fs (b:Int):Bool:=decide (b>=9223372036854775808)
def JU (neg:Bool) (b:Int):Int:=if neg then b+9223372036854775808 else b
def fk (b:Int):Int:=if fx b=2047 then(if fr b=0 then 3 else 4) else if fx b=0 then(if fr b=0 then 0 else 1) else 2
def pm (b:Int):Int:=if fx b=0 then fr b else fr b+4503599627370496
def pe (b:Int):Int:=if fx b=0 then -1074 else fx b-1075
def WI:Int:=9218868437227405312
def dG:Int:=9221120237041090560
theorem ADV {a b c:Int} (h:0<c):(a*c>b*c↔a>b)/\(a*c=b*c↔a=b):=by
 constructor
 · constructor
   · intro h1
     rcases AN7 b a with h2 | h2
     · exact h2
     · have:=ANU h2 (ANL h)
       omega
   · intro h1
     exact AOL h1 h
 · exact⟨λh1=>AO2 (by omega) h1,λh1=>by rw[h1]⟩
theorem GN (M:Int) {G D:Int} (hG:0<G):M%(G*D)=G*(M/G%D)+M%G:=by
 rw[AQp M (G*D),<-AN0 (by omega),AQp (M/G) D,AQp M G]
 grind
def Pv (M:Int) (d:Nat):Int:=if 2*(M%2^d)>2^d\/(2*(M%2^d)=2^d/\M/2^d%2=1) then M/2^d+1 else M/2^d
theorem LM (M:Int):Pv M 0=M:=by
 unfold Pv;rw[ANc,AON,AOu,if_neg (by omega)]
theorem AAb (M:Int) (d:Nat):M/2^d<=Pv M d/\Pv M d<=M/2^d+1:=by
 unfold Pv;split<;>omega
theorem Wb {M:Int} {d:Nat} (h0:0<=M) (h:2*M<2^d):Pv M d=0:=by
 unfold Pv;rw[ANv h0 (by omega),ANw h0 (by omega),if_neg (by omega)]
theorem xW {M:Int} {d:Nat} (h:M%2^d=0):Pv M d=M/2^d:=by
 have:=pow_pos d;unfold Pv;rw[h,if_neg (by omega)]
theorem gI (M:Int) (d s:Nat):Pv (M*2^s) (d+s)=Pv M d:=by
 have hs:=pow_pos s;have e1:M*2^s/2^(d+s)=M/2^d:=by
  rw[ANl,ANY M,ANY (2^d),Int.mul_ediv_mul_of_pos _ _ hs]
 have e2:M*2^s%2^(d+s)=M%2^d*2^s:=by
  rw[ANl,ANY M,ANY (2^d),AOx _ _ hs,ANY]
 have e3:=ADV (a:=2*(M%2^d)) (b:=2^d) hs;unfold Pv;rw[e1,e2,<-ANu,ANl];simp only[e3.1,e3.2]
theorem Tp {x:Int} {n:Nat} (h:2^n<=x):(n:Int)+1<=bl x:=by
 have:=pow_pos n;have a1:=Gf x;have:n<(bl x).toNat:=Rx (by omega);omega
theorem aa {m:Int} (h:0<m) (s:Nat):bl (m*2^s)=bl m+s:=by
 have hp:=pow_pos s;have h1:2^s<=m*2^s:=by
  have:=ANU (show 1<=m by omega) (ANL hp);omega
 rw[QS h1,AQD _ (by omega)]
def un (m e:Int):Int:=max (bl m+e-53) (-1074)
theorem ur (m e:Int) : -1074<=un m e:=by unfold un;omega
theorem pO {m:Int} (h:0<m) (e:Int) (s:Nat):un (m*2^s) (e-s)=un m e:=by
 unfold un;rw[aa h,show bl m+(s:Int)+(e-s)-53=bl m+e-53 by omega]
def ru (m e u:Int):Int:=Pv (m*2^(e-u).toNat) (u-e).toNat
theorem ABn (m e u:Int) (s:Nat):ru (m*2^s) (e-s) u=ru m e u:=by
 unfold ru;rcases AN7 u e with h | h
 · obtain⟨t,ht⟩ : ∃t:Nat,e-u=t:=⟨(e-u).toNat,by omega⟩
   rw[show(u-e).toNat=0 by omega,LM,ht,ANI];rcases ANs t s with h2 | h2
   · rw[show(e-s-u).toNat=0 by omega,show(u-(e-s)).toNat=0+(s-t) by omega,ANc,ANr]
     have:m*2^s=m*2^t*2^(s-t):=(by rw[ANu,<-ANl,show t+(s-t)=s by omega]);rw[this,gI,LM]
   · rw[show(e-s-u).toNat=t-s by omega,show(u-(e-s)).toNat=0 by omega,LM,ANu,<-ANl,show s+(t-s)=t by omega]
 · rw[show(e-u).toNat=0 by omega,show(e-s-u).toNat=0 by omega,ANc,ANr,ANr,show(u-(e-s)).toNat=(u-e).toNat+s by omega,gI]
def Rd (m e:Int):Int:=if m<=0 then 0 else if un m e>971 then WI else(un m e+1074)*4503599627370496+ru m e (un m e)
theorem jQ (e:Int):Rd 0 e=0:=by unfold Rd;rw[if_pos (by omega)]
theorem Ht {m:Int} (h:0<m) (e:Int) (s:Nat):Rd (m*2^s) (e-s)=Rd m e:=by
 have:0<m*2^s:=AOY h (pow_pos s);unfold Rd;rw[if_neg (show¬m*2^s<=0 by omega),if_neg (show¬m<=0 by omega),pO h,ABn]
theorem xX {X:Int} {g:Nat} (h:1<=X/2^g):2^g<=X:=by
 rw[AOD (pow_pos g)] at h;omega
theorem gJ {X:Int} {g:Nat} (h:2^g<=X):1<=X/2^g:=by
 rw[AOD (pow_pos g)];omega
theorem ADW {X Y c:Int} {g:Nat} (hX:0<X) (hY:0<Y) (hq:X/2^g=Y/2^g) (hu:c+g+1<=un X c):un X c=un Y c:=by
 have hp:=pow_pos g;unfold un at *;rcases AN7 X (2^g) with h | h
 · have e1:X/2^g=0:=ANw (by omega) h
   have h2:Y<2^g:=by
    rcases AN7 Y (2^g) with h' | h'
    · exact h'
    · have:=gJ h'
      omega
   have b1:=Bw h;have b2:=Bw h2;omega
 · have h3:=gJ h
   rw[hq] at h3;rw[QS h,QS (xX h3),hq]
theorem pP {G κ H x:Int} (hG:0<G) (h0:0<=x) (h1:x<G):(2*(G*κ+x)>G*(2*H)↔(κ>H\/(κ=H/\x≠0)))/\(2*(G*κ+x)=G*(2*H)↔(κ=H/\x=0)):=by
 rw[show G*(2*H)=2*(G*H) from Int.mul_left_comm ..];rcases APT κ H with h | h | h
 · have:=ANe (show κ+1<=H by omega) (ANL hG)
   rw[AOs,ANr] at this;omega
 · subst h
   omega
 · have:=ANe (show H+1<=κ by omega) (ANL hG)
   rw[AOs,ANr] at this;omega
theorem ABo {X Y:Int} {d g:Nat} (hgd:g+1<=d) (hq:X/2^g=Y/2^g) (hz:X%2^g=0↔Y%2^g=0):Pv X d=Pv Y d:=by
 obtain⟨j,rfl⟩ : ∃j,d=g+(j+1):=⟨d-g-1,by omega⟩;have hG:=pow_pos g;have e:(2:Int)^(g+(j+1))=2^g*(2*2^j):=by rw[ANl,ANi,ANY (2^j)]
 unfold Pv;have ex:X/(2^g*(2*2^j))=X/2^g/(2*2^j):=(AN0 (by omega)).symm;have ey:Y/(2^g*(2*2^j))=Y/2^g/(2*2^j):=(AN0 (by omega)).symm;rw[e,GN X hG,GN Y hG,ex,ey,hq];have hx:=pP (κ:=Y/2^g%(2*2^j)) (H:=2^j) hG (ANk X (show(2:Int)^g≠0 by omega)) (ANh X hG);have hy:=pP (κ:=Y/2^g%(2*2^j)) (H:=2^j) hG (ANk Y (show(2:Int)^g≠0 by omega)) (ANh Y hG);simp only[hx.1,hx.2,hy.1,hy.2,ne_eq,hz]
theorem OJ {X Y c:Int} {g:Nat} (hX:0<X) (hY:0<Y) (hq:X/2^g=Y/2^g) (hz:X%2^g=0↔Y%2^g=0) (hu:c+g+1<=un X c):Rd X c=Rd Y c:=by
 have e:=ADW hX hY hq hu;unfold Rd;rw[if_neg (show¬X<=0 by omega),if_neg (show¬Y<=0 by omega),<-e];split
 · rfl
 · congr 1
   unfold ru;rw[show(c-un X c).toNat=0 by omega,ANc,ANr,ANr];exact ABo (g:=g) (by omega) hq hz
def st (M:Int) (s:Nat):Int:=if M%2^s=0 then M/2^s else M/2^s/2*2+1
theorem ACk (M:Int):st M 0=M:=by unfold st;rw[ANc,AOu,if_pos rfl,AON]
theorem fZ {M:Int} (h:0<=M) (s:Nat):0<=st M s:=by
 have:=ANd h (ANL (pow_pos s));unfold st;split<;>omega
theorem AF7 {M:Int} (h:0<M) (s:Nat):0<st M s:=by
 have:=ANd (ANL h) (ANL (pow_pos s));have hd:=ANa M (2^s);unfold st;split
 · rename_i hz
   rcases(show M/2^s=0\/0<M/2^s by omega) with h1 | h1
   · rw[h1,hz,AOR] at hd
     omega
   · exact h1
 · omega
theorem uj (M:Int) (s:Nat):(st M s*2^s)/2^(s+1)=M/2^(s+1)/\((st M s*2^s)%2^(s+1)=0↔M%2^(s+1)=0):=by
 have hG:=pow_pos s;have hr:=ANk M (show(2:Int)^s≠0 by omega);have e1:st M s*2^s/2^s=st M s:=AQD _ (by omega);have e2:st M s*2^s%2^s=0:=AQV ..;rw[ANi,GN _ hG,GN M hG,<-AN0 (by omega),<-AN0 (by omega),e1,e2];have hk : ∀k:Int,k=0\/k=1->(2^s*k=0↔k=0):=by
  intro k hk;rcases hk with rfl | rfl
  · simp
  · rw[ANr];omega
 have k1:=hk (st M s%2) (by omega);have k2:=hk (M/2^s%2) (by omega);have p2:0<=2^s*(M/2^s%2):=ANZ (by omega) (by omega);unfold st at *;split
 · rename_i hz
   rw[if_pos hz] at k1;constructor<;>omega
 · rename_i hz
   rw[if_neg hz] at k1;constructor<;>omega
theorem AGd {M e:Int} {s:Nat} (hM:0<M) (hu:e+s+2<=un M e):Rd (st M s) (e+s)=Rd M e:=by
 have h1:=AF7 hM s;have h2:=uj M s;have h3:=Ht h1 (e+s) s;rw[show e+(s:Int)-s=e by omega] at h3;rw[<-h3];exact(OJ (g:=s+1) hM (AOY h1 (pow_pos s)) h2.1.symm h2.2.symm (by omega)).symm
theorem wz {m e:Int} (h:0<m):0<=m*2^(e-un m e).toNat/2^(un m e-e).toNat/\m*2^(e-un m e).toNat/2^(un m e-e).toNat<9007199254740992/\(un m e= -1074\/4503599627370496<=m*2^(e-un m e).toNat/2^(un m e-e).toNat):=by
 have hu:un m e=max (bl m+e-53) (-1074):=rfl;have hb:=aa h (e-un m e).toNat;have hM:0<m*2^(e-un m e).toNat:=AOY h (pow_pos _);have a1:=Gf (m*2^(e-un m e).toNat);have a2:=VE hM;have a3:=DY hM;have hp:=pow_pos (un m e-e).toNat;generalize un m e=u at *;generalize m*2^(e-u).toNat=M at *;have q0:0<=M/2^(u-e).toNat:=ANd (by omega) (by omega);have q1:M/2^(u-e).toNat<9007199254740992:=by
  rw[ANm hp,show(9007199254740992:Int)=2^53 from rfl,<-ANl];have:=Az (a:=(bl M).toNat) (b:=53+(u-e).toNat) (by omega);omega
 refine⟨q0,q1, ?_⟩;rcases(show u= -1074\/u=bl m+e-53 by omega) with h1 | h1
 · exact .inl h1
 · refine .inr ?_
   rw[AOD hp,show(4503599627370496:Int)=2^52 from rfl,<-ANl];have:=Az (a:=52+(u-e).toNat) (b:=(bl M-1).toNat) (by omega);omega
theorem VD {m e:Int} (h:0<m):0<=ru m e (un m e)/\ru m e (un m e)<=9007199254740992/\(un m e= -1074\/4503599627370496<=ru m e (un m e)):=by
 have q:=wz (e:=e) h;have r:=AAb (m*2^(e-un m e).toNat) (un m e-e).toNat;unfold ru;omega
theorem LK (m e:Int):0<=Rd m e/\Rd m e<=WI:=by
 unfold Rd WI;split
 · omega
 · split
   · omega
   · have:=VD (m:=m) (e:=e) (by omega)
     have:=ur m e;omega
theorem AFG {m e:Int} (h:0<m) (he:1024<=e):Rd m e=WI:=by
 have:=DY h;unfold Rd;rw[if_neg (by omega),if_pos (by unfold un;omega)]
theorem jS {m e:Int} (h:0<=m) (he:bl m+e < -1074):Rd m e=0:=by
 rcases(show m=0\/0<m by omega) with rfl | h1
 · exact jQ e
 · have hb:=DY h1
   have hu:un m e= -1074:=(by unfold un;omega);have hl:=Gf m;unfold Rd ru;rw[hu,if_neg (by omega),if_neg (by omega),show(e - -1074).toNat=0 by omega,ANc,ANr];obtain⟨j,hj⟩ : ∃j:Nat,(-1074-e).toNat=j+1:=⟨(-1074-e).toNat-1,by omega⟩;have:=Az (a:=(bl m).toNat) (b:=j) (by omega);rw[hj,Wb h (by rw[ANi];omega)];rfl
def Mk (neg:Bool) (m e:Int):Int × Bool :=
 if m=0 then(JU neg 0,true) else
  if un m e>971\/m*2^(e-un m e).toNat%2^(un m e-e).toNat≠0 then(0,false) else(JU neg (Rd m e),true)
theorem U9 (neg:Bool) (e:Int):Mk neg 0 e=(JU neg 0,true):=by unfold Mk;rw[if_pos rfl]
theorem PN (neg:Bool) {m e:Int} (h:m≠0) (hc:un m e>971\/m*2^(e-un m e).toNat%2^(un m e-e).toNat≠0):Mk neg m e=(0,false):=by
 unfold Mk;rw[if_neg h,if_pos hc]
theorem QK (neg:Bool) {m e:Int} (h:m≠0) (h1:un m e<=971) (h2:m*2^(e-un m e).toNat%2^(un m e-e).toNat=0):Mk neg m e=(JU neg (Rd m e),true):=by
 unfold Mk;rw[if_neg h,if_neg (by rw[not_or];exact⟨by omega,λk=>k h2⟩)]
theorem QL {m e:Int} (h:0<m) (h1:un m e<=971) (h2:m*2^(e-un m e).toNat%2^(un m e-e).toNat=0):Rd m e=(un m e+1074)*4503599627370496+m*2^(e-un m e).toNat/2^(un m e-e).toNat:=by
 unfold Rd ru;rw[if_neg (by omega),if_neg (by omega),xW h2]
theorem AAL {m e:Int} {n:Nat} (h1:2^n<=m) (h2:m<2^(n+1)):un m e=max ((n:Int)+e-52) (-1074):=by
 unfold un;rw[AES h1 h2]
 congr 1
 omega
theorem jN {w u:Int} (h0:0<w) (h1:w<=9007199254740992) (hu0 : -1074<=u) (ng:u<=971) (hw:u= -1074\/4503599627370496<=w) :
 (w<9007199254740992->un w u=u)/\(w=9007199254740992->un w u=u+1)/\(un w u<=971->w*2^(u-un w u).toNat%2^(un w u-u).toNat=0)/\Rd w u=(u+1074)*4503599627370496+w:=by
 have key:(w<9007199254740992->un w u=u)/\(w=9007199254740992->un w u=u+1):=by
  constructor
  · intro h
    rcases AN7 w 4503599627370496 with h2 | h2
    · have:=Bw (x:=w) (n:=52) h2
      unfold un;omega
    · rw[AAL (n:=52) h2 h]
      omega
  · intro h
    rw[AAL (n:=53) (by omega) (by omega)];omega
 refine⟨key.1,key.2, ?_⟩;rcases(show w<9007199254740992\/w=9007199254740992 by omega) with h | h
 · have e:=key.1 h
   rw[e];have e2:w*2^(u-u).toNat%2^(u-u).toNat=0:=by
    rw[show(u-u).toNat=0 by omega,ANc,AOu]
   refine⟨λ_=>e2, ?_⟩;rw[QL h0 (by omega) (by rw[e];exact e2),e,show(u-u).toNat=0 by omega,ANc,ANr,AON]
 · have e:=key.2 h
   rw[e];have e2:w*2^(u-(u+1)).toNat%2^(u+1-u).toNat=0:=by
    rw[show(u-(u+1)).toNat=0 by omega,show(u+1-u).toNat=1 by omega,h];rfl
   refine⟨λ_=>e2, ?_⟩;rcases(show u=971\/u+1<=971 by omega) with h3 | h3
   · unfold Rd WI
     rw[if_neg (by omega),if_pos (by omega)];omega
   · rw[QL h0 (by omega) (by rw[e];exact e2),e,show(u-(u+1)).toNat=0 by omega,show(u+1-u).toNat=1 by omega,h]
     simp only[ANc,ANr,AOv];omega
theorem uo {neg:Bool} {w u:Int} (h0:0<=w) (h1:w<=9007199254740992) (hu0 : -1074<=u) (ng:u<=971) (hw:u= -1074\/4503599627370496<=w) :
 (if(Mk neg w u).2 then(Mk neg w u).1 else JU neg WI)=JU neg ((u+1074)*4503599627370496+w):=by
 rcases(show w=0\/0<w by omega) with rfl | h
 · rw[U9]
   obtain rfl:u= -1074:=by omega
   rfl
 · obtain⟨k1,k2,k3,k4⟩:=jN h h1 hu0 ng hw
   by_cases hc:un w u>971
   · rw[PN neg (by omega) (.inl hc)]
     have wK:w=9007199254740992:=(by omega);have hu2:u=971:=(by omega);rw[wK,hu2];rfl
   · rw[QK neg (by omega) (by omega) (k3 (by omega)),k4]
     rfl
theorem ni (neg:Bool) {m:Int} (h:0<m) (e:Int):Mk neg (m*2) (e-1)=Mk neg m e:=by
 have hu:=pO h e 1;have hR:=Ht h e 1;rw[AOv] at hu hR;rw[show e-((1:Nat):Int)=e-1 from rfl] at hu hR;have:m*2*2^(e-1-un m e).toNat%2^(un m e-(e-1)).toNat=0↔m*2^(e-un m e).toNat%2^(un m e-e).toNat=0:=by
  generalize un m e=u;rcases AN7 u e with h1 | h1
  · rw[show(u-e).toNat=0 by omega,show(u-(e-1)).toNat=0 by omega,ANc,AOu,AOu]
  · rw[show(e-u).toNat=0 by omega,show(e-1-u).toNat=0 by omega,show(u-(e-1)).toNat=(u-e).toNat+1 by omega,ANi,ANc,ANr,ANr,ANY m,ANY (2^_),AOx _ _ (by omega)]
    omega
 by_cases hc:un m e>971\/m*2^(e-un m e).toNat%2^(un m e-e).toNat≠0
 · rw[PN neg (by omega) hc,PN neg (by omega) (by rw[hu];rcases hc with hc | hc;exact .inl hc;exact .inr (λk=>hc (this.1 k)))]
 · rw[not_or] at hc
   have h2:m*2^(e-un m e).toNat%2^(un m e-e).toNat=0:=Decidable.byContradiction hc.2;rw[QK neg (by omega) (by omega) h2,QK neg (by omega) (by omega) (by rw[hu];exact this.2 h2),hR]
theorem U6 {b:Int} :0<=fx b/\fx b<2048:=by unfold fx;omega
theorem NM {b:Int} :0<=fr b/\fr b<4503599627370496:=by unfold fr;omega
theorem Eh (b:Int):0<=pm b/\pm b<9007199254740992:=by
 have:= @NM b;unfold pm;split<;>omega
theorem GF (b:Int) : -1074<=pe b/\pe b<=972/\(fx b≠2047->pe b<=971)/\(pe b= -1074\/4503599627370496<=pm b):=by
 have:= @U6 b;have:= @NM b;unfold pe pm;split<;>omega
theorem U7 (b:Int):(fk b=4↔fx b=2047/\fr b≠0)/\(fk b=3↔fx b=2047/\fr b=0)/\(fk b=0↔fx b=0/\fr b=0)/\(fk b=0↔fx b≠2047/\pm b=0)/\0<=fk b/\fk b<=4:=by
 have h2:= @NM b;unfold fk pm;by_cases c1:fx b=2047
 · rw[if_pos c1]
   by_cases c2:fr b=0
   · rw[if_pos c2];omega
   · rw[if_neg c2];omega
 · rw[if_neg c1]
   by_cases c3:fx b=0
   · rw[if_pos c3,if_pos c3]
     by_cases c2:fr b=0
     · rw[if_pos c2];omega
     · rw[if_neg c2];omega
   · rw[if_neg c3,if_neg c3];omega
theorem KU {b:Int} (h4:fk b≠4) (h3:fk b≠3):fx b≠2047:=by
 have:=U7 b;omega
theorem ABp {l:List Int} {i:Nat} (h:l.length<=i):rd l (i:Int)=0:=bk h
theorem pQ {x:Int} (hx:U x) {b:Nat} (hb:b<=63) (h0:x/2^b%2=0):Go.bits .or .u64 x (2^b)=x+2^b/\U (x+2^b):=by
 obtain⟨hx0,hx1⟩:=hx;have hp:=pow_pos b;have Lh:=pow_pos (b+1);have ANE:(2:Int)^b<=2^63:=Az hb;have hs:=GN x (D:=2) hp;rw[h0,AOR,APy] at hs;rw[show(2:Int)^b*2=2^(b+1) from(ANi ..).symm] at hs;have hd:=ANa x (2^(b+1));have r0:=ANk x (show(2:Int)^b≠0 by omega);have r1:=ANh x hp;rw[hs] at hd;have Y2:0<=2^(b+1)*(x/2^(b+1)):=ANZ (by omega) (ANd hx0 (by omega));have hAm:2^(b+1)*(x/2^(b+1))%2^(b+1)=0:=AOh ..;have aj:(2:Int)^(b+1)*2^(63-b)=18446744073709551616:=by rw[<-ANl,show b+1+(63-b)=64 by omega];rfl
 have hq:x/2^(b+1)<2^(63-b):=by rw[ANm Lh,ANY,aj];exact hx1
 have xU:=ANe (show x/2^(b+1)+1<=2^(63-b) by omega) (ANL Lh);rw[aj,AOs,ANr] at xU;have e2:(2:Int)^(b+1)=2^b*2:=ANi ..;generalize hA:2^(b+1)*(x/2^(b+1))=A at *;generalize hr:x%2^b=r at *;have o1:Go.bits .or .u64 A r=A+r:=FU (b+1) _ _ Y2 hAm (by omega) r0 (by omega) (by omega);have o2:Go.bits .or .u64 (2^b) r=2^b+r:=FU b _ _ (by omega) (Int.emod_self) (by omega) r0 r1 (by omega);have o3:Go.bits .or .u64 A (2^b+r)=A+(2^b+r):=FU (b+1) _ _ Y2 hAm (by omega) (by omega) (by omega) (by omega);refine⟨?_,by unfold U;omega⟩;obtain⟨a,ha⟩:=ANR Y2;obtain⟨c,hc⟩:=ANR r0;obtain⟨p,hpn⟩:=ANR (ANL hp);have hor : ∀u v:Nat,u<2^64->v<2^64->Go.bits .or .u64 (u:Int) (v:Int)=((u ||| v:Nat):Int):=λu v hu hv=>af u v hu hv
 rw[ha,hc] at o1;rw[hpn,hc] at o2;have b1:=hor a c (by omega) (by omega);have b2:=hor p c (by omega) (by omega);rw[b1] at o1;rw[b2] at o2;rw[ha,hpn,hc,<-o2,hor a (p ||| c) (by omega) (by omega)] at o3;rw[show x=A+r by omega,ha,hc,<-o1,hpn,hor (a ||| c) p (by omega) (by omega),Nat.or_assoc,Nat.or_comm c p,o3,o1,o2];omega
theorem kn (i:Nat):Int.tdiv (i:Int) 64=((i/64:Nat):Int):=by rw[AN5 (by omega)];omega
theorem ABq (i:Nat):Int.tmod (i:Int) 64=((i%64:Nat):Int):=by rw[AOH (by omega)];omega
theorem ZQ {n:Nat} (h:n<=1000000000000):wrap64 (n:Int)=n:=AE (by omega) (by omega)
theorem ABr {n:Nat} (h:n<=1000000000000):IntKind.u64.wrap (n:Int)=n:=DE (by omega) (by omega)
theorem VY {j:Nat} (h:j<=1000000000000):wrap64 ((j:Int)+1)=((j+1:Nat):Int):=by rw[AE (by omega) (by omega)];omega
theorem vX {b:Nat} (hb:b<=63):shl .u64 1 (b:Int)=2^b:=by
 have:=Az (a:=b) (b:=63) (by omega);have:=pow_pos b;rw[Ke _ _ (by omega),ANI,AOl,ANv (by omega) (by omega)]
theorem ko (l:List Int) {i:Nat} (h:l.length<=i):nv (l.take i)=nv l:=by rw[ANW h]
theorem pR {a:List Int} (ha:Wl a) {i:Nat} (hi:i<=60000000) (Wg:nv a/2^i%2=0) {n:Nat} (hn:a.length<=n) (hn2:i/64<n) (hn3:n<=1000000000) (d:Nat) : ∀(j:Nat) (out:List Int),j+d=n->out.length=j->Ws out->nv out=nv (a.take j)+(if i/64<j then 2^i else 0) ->
 ∃r,Ev (λk=>CE.l0 k a i out (n:Int) j) r/\Ws r/\r.length=n/\nv r=nv a+2^i:=by
 induction d with
 | zero =>
   intro j out hj hlo Nz he;obtain rfl:j=n:=by omega
   refine⟨out,Ev.step (λk=>CE.l0.eq_2 ..) (Ev.AP (by omega) (Ev.same rfl)),Nz,hlo, ?_⟩;rw[he,ko a hn,if_pos hn2]
 | succ d ih =>
   intro j out hj hlo Nz he;have hx:U (rd a (j:Int)):=Gt ha.1 _;have key : ∀v:Int,U v->v=rd a (j:Int)+(if i/64=j then 2^(i%64) else 0)-> ∃r,Ev (λk=>CE.l0 k a i (out++ [v]) (n:Int) ((j+1:Nat):Int)) r/\Ws r/\r.length=n/\nv r=nv a+2^i:=by
    intro v hv hve;refine ih (j+1) (out++ [v]) (by omega) (by rw[ANT,hlo];rfl) (Wy.2 ⟨Nz,JZ hv⟩) ?_;rw[HN,he,I4,hlo,hve];by_cases h1:i/64=j
    · rw[if_pos h1,if_neg (show¬i/64<j by omega),if_pos (show i/64<j+1 by omega)]
      have:(2:Int)^i=Wp j*2^(i%64):=(by rw[F6,<-ANl,show 64*j+i%64=i by omega]);rw[this,AOs];omega
    · rw[if_neg h1,AOS]
      by_cases h2:i/64<j
      · rw[if_pos h2,if_pos (show i/64<j+1 by omega)]
        omega
      · rw[if_neg h2,if_neg (show¬i/64<j+1 by omega)]
        omega
   have hbl:=ou ha.1 i;rw[Wg] at hbl;by_cases hin:j<a.length
   · by_cases h1:i/64=j
     · have hw:=pQ hx (b:=i%64) (by omega) (by rw[<-h1];exact hbl.symm)
       obtain⟨r,hr,nL⟩:=key _ hw.2 (by rw[if_pos h1]);refine⟨r,Ev.step (λk=>CE.l0.eq_2 ..) (Ev.AK (by omega) (Ev.AK (by omega) (Ev.AK (by omega) ?_))),nL⟩;rw[kn,ABq,ZQ (by omega),ABr (by omega),vX (by omega),hw.1,VY (by omega)];exact Ev.AK (by omega) (Ev.AK (by omega) (Ev.AK (by omega) hr))
     · obtain⟨r,hr,nL⟩:=key (rd a (j:Int)) hx (by rw[if_neg h1];omega)
       refine⟨r,Ev.step (λk=>CE.l0.eq_2 ..) (Ev.AK (by omega) (Ev.AK (by omega) (Ev.AK (by omega) ?_))),nL⟩;rw[kn,ZQ (by omega),VY (by omega)];exact Ev.AP (by omega) (Ev.AK (by omega) hr)
   · have hz:=ABp (l:=a) (i:=j) (by omega)
     by_cases h1:i/64=j
     · have hw:=pQ (x:=0) (by unfold U;omega) (b:=i%64) (by omega) (by rw[AQa];rfl)
       obtain⟨r,hr,nL⟩:=key _ hw.2 (by rw[if_pos h1,hz]);refine⟨r,Ev.step (λk=>CE.l0.eq_2 ..) (Ev.AK (by omega) (Ev.AP (by omega) ?_)),nL⟩;rw[kn,ABq,ZQ (by omega),ABr (by omega),vX (by omega),hw.1,VY (by omega)];exact Ev.AK (by omega) (Ev.AK (by omega) (Ev.AK (by omega) hr))
     · obtain⟨r,hr,nL⟩:=key 0 (by unfold U;omega) (by rw[if_neg h1,hz];omega)
       refine⟨r,Ev.step (λk=>CE.l0.eq_2 ..) (Ev.AK (by omega) (Ev.AP (by omega) ?_)),nL⟩;rw[kn,ZQ (by omega),VY (by omega)];exact Ev.AP (by omega) (Ev.AK (by omega) hr)
theorem Qt {a:List Int} (ha:Wl a) (hla:a.length<=1000000) {i:Nat} (hi:i<=60000000) (Wg:nv a/2^i%2=0) :
 ∃r,Ev (λk=>CE.f k a i) r/\Ws r/\r.length=max a.length (i/64+1)/\nv r=nv a+2^i:=by
 have hm:mx (a.length:Int) (wrap64 ((wrap64 (Int.tdiv (i:Int) 64))+1))=((max a.length (i/64+1):Nat):Int):=by
  rw[AN5 (by omega),AE (n:=(i:Int)/64) (by omega) (by omega),AE (by omega) (by omega)];unfold mx;split<;>omega
 have:=pR ha hi Wg (n:=max a.length (i/64+1)) (by omega) (by omega) (by omega) (max a.length (i/64+1)) 0 [] (by omega) rfl Hj (by rw[if_neg (by omega)];rfl);unfold CE.f;rw[hm];exact this
theorem kr {a:List Int} (ha:Wl a) (hla:a.length<=2000) {R:Int} (hR:IF (nv a) R) (j:Nat) (hj:j<=100000) : ∀z:List Int,Ws z->z.length<=2000->nv z%2^j=0->nv z<=R->R<nv z+2^j->Ev (λk=>HM.l0 k a z ((j:Int)-1)) (dg R):=by
 induction j with
 | zero =>
   intro z hz hlz hm h1 h2;rw[ANc] at h2;refine Ev.step (λk=>HM.l0.eq_2 ..) (Ev.AP (by omega) ?_);have:=Bk (l:=z) ⟨hz,by omega⟩;rw[show nv z=R by omega] at this;exact Ev.bind this (Ev.same rfl)
 | succ j ih =>
   intro z hz hlz hm h1 h2;have hp:=pow_pos j;have z0:=AN hz;have ej:((j+1:Nat):Int)-1=(j:Int):=(by omega);rw[ej];have hm':=ANa (nv z) (2^(j+1));rw[hm,AOS,ANi,ANu] at hm';have Wg:nv z/2^j%2=0:=by
    rw[<-hm',APh _ (by omega)];exact AOh ..
   have hm3:nv z%2^j=0:=by
    rw[<-hm'];exact AOh ..
   refine Ev.step (λk=>HM.l0.eq_2 ..) (Ev.AK (by omega) ?_);obtain⟨r,hr,hrw,hrl,hrn⟩:=Qt (a:=z) ⟨hz,by omega⟩ (by omega) (i:=j) (by omega) Wg;have AMR:r.length<=2000:=(by omega);refine Ev.bind hr ?_;have M:=Xf (a:=r) (b:=r) ⟨hrw,by omega⟩ ⟨hrw,by omega⟩ (by omega) (by omega);have r0:=AN hrw;have brr:=F1 r0 r0;have br:=Fg hrw;refine Ev.bind M ?_;have C:=IU (a:=dg (nv r*nv r)) (b:=a) (Bg (by omega)) ha;rw[Aa (ANZ r0 r0)] at C;refine Ev.bind C ?_;rw[AE (by omega) (by omega)];rw[ANi] at h2;by_cases hc:GD (nv r*nv r) (nv a)<=0
   · refine Ev.AK hc ?_
     have hle:nv r*nv r<=nv a:=by
      unfold GD at hc;split at hc
      · omega
      · split at hc
        · omega
        · omega
     have hlt:nv r<R+1:=Eg (by have:=hR.1;omega) (by have:=hR.2.2;omega);refine ih (by omega) r hrw AMR ?_ (by omega) (by omega);rw[hrn,AQL];exact hm3
   · refine Ev.AP hc ?_
     have hgt:nv a<nv r*nv r:=by
      unfold GD at hc;split at hc
      · omega
      · split at hc
        · assumption
        · omega
     have hlt:R<nv r:=Eg r0 (by have:=hR.2.1;omega);exact ih (by omega) z hz hlz hm3 h1 (by omega)
theorem jc {a:List Int} (ha:Wl a) (hla:a.length<=1000) {R:Int} (hR:IF (nv a) R):Ev (λk=>HM.f k a) (dg R):=by
 have h0:=AN ha.1;have hb:=Fg ha.1;have hb0:=B5 (nv a);refine Ev.bind (Ko ha) ?_;obtain⟨n,hn⟩ : ∃n:Nat,bl (nv a)=n:=⟨(bl (nv a)).toNat,by omega⟩;have e:wrap64 (Int.tdiv (wrap64 (bl (nv a)+1)) 2)=(((n+1)/2+1:Nat):Int)-1:=by
  rw[AE (n:=bl (nv a)+1) (by omega) (by omega),AN5 (by omega),AE (by omega) (by omega)];omega
 rw[e];refine kr ha (by omega) hR ((n+1)/2+1) (by omega) [] Hj (by simp) (by rfl) hR.1 ?_;have l:=Gf (nv a);rw[hn,ANI] at l;have hp:=pow_pos ((n+1)/2+1);show R<0+2^((n+1)/2+1);have:R<2^((n+1)/2+1):=by
  refine Eg (by omega) ?_;rw[<-ANl];have:=Az (a:=n) (b:=(n+1)/2+1+((n+1)/2+1)) (by omega);have:=hR.2.1;omega
 omega
def gc (a b:Int):Int:=(Nat.gcd a.toNat b.toNat:Nat)
theorem Jf (a b:Nat):gc a b=(Nat.gcd a b:Nat):=by unfold gc;rw[ANI,ANI]
theorem Nc (a b:Int):0<=gc a b:=by unfold gc;omega
theorem Ip (a b:Int):gc a b=gc b a:=by unfold gc;rw[AQq]
theorem Iv {a:Int} (h:0<=a):gc a 0=a:=by
 obtain⟨A,rfl⟩:=ANR h;have:=Jf A 0;rw[Nat.gcd_zero_right] at this;exact this
theorem ABs {a:Int} (h:0<=a):gc a 1=1:=by
 obtain⟨A,rfl⟩:=ANR h;have:=Jf A 1;rw[Nat.gcd_one_right] at this;exact this
theorem ku {a b:Int} (ha:0<=a) (hb:0<=b):gc b (a%b)=gc a b:=by
 obtain⟨A,rfl⟩:=ANR ha;obtain⟨B,rfl⟩:=ANR hb;rw[<-Int.natCast_emod,Jf,Jf,AQq A B,Nat.gcd_rec B A,AQq]
theorem AF8 {x y:Int} (hy:0<=y) (h:y<=x):gc (x-y) y=gc x y:=by
 obtain⟨X,rfl⟩:=ANR (show 0<=x by omega);obtain⟨Y,rfl⟩:=ANR hy;rw[show(X:Int)-Y=((X-Y:Nat):Int) by omega,Jf,Jf,Nat.gcd_sub_self_left (by omega)]
theorem ABt {x y c:Int} (hx:0<=x) (hy:0<=y) (hc:0<=c):gc (x*c) (y*c)=gc x y*c:=by
 obtain⟨X,rfl⟩:=ANR hx;obtain⟨Y,rfl⟩:=ANR hy;obtain⟨C,rfl⟩:=ANR hc;rw[<-APP,<-APP,Jf,Jf,Nat.gcd_mul_right,APP]
theorem ABu {x y:Int} (hx:0<=x) (hy:0<=y) (ho:y%2=1) (t:Nat):gc (x*2^t) y=gc x y:=by
 obtain⟨X,rfl⟩:=ANR hx;obtain⟨Y,rfl⟩:=ANR hy;have e:(X:Int)*2^t=((X*2^t:Nat):Int):=by rw[APP,AQC];rfl
 have hc:Nat.Coprime (2^t) Y:=by
  refine Nat.Coprime.pow_left t ?_;have:Nat.gcd 2 Y=Nat.gcd (Y%2) 2:=Nat.gcd_rec 2 Y;rw[show Y%2=1 by omega,Nat.gcd_one_left] at this;exact this
 rw[e,Jf,Jf,Nat.Coprime.gcd_mul_right_cancel X hc]
theorem xY {x y:Int} (hx:0<=x) (hy:0<=y) (hox:x%2=1) (hoy:y%2=1) (i j:Nat):gc (x*2^i) (y*2^j)=gc x y*2^(min i j):=by
 have key : ∀(x y:Int) (i j:Nat),0<=x->0<=y->x%2=1->i<=j->gc (x*2^i) (y*2^j)=gc x y*2^i:=by
  intro x y i j hx hy hox hij;have e:y*2^j=y*2^(j-i)*2^i:=by rw[ANu,<-ANl,show j-i+i=j by omega]
  have hp:=pow_pos i;have Lg:=pow_pos (j-i);rw[e,ABt hx (ANZ hy (by omega)) (by omega),Ip x,ABu hy hx hox,Ip y]
 rcases AQh i j with h | h
 · rw[key x y i j hx hy hox h,ANb h]
 · rw[Ip,key y x j i hy hx hoy h,Nat.min_eq_right h,Ip]
theorem OE {a b:Int} (h:0<a\/0<b):0<gc a b:=by
 unfold gc;have:0<Nat.gcd a.toNat b.toNat:=by
  rcases h with h | h
  · exact Nat.gcd_pos_of_pos_left _ (by omega)
  · exact Nat.gcd_pos_of_pos_right _ (by omega)
 omega
theorem Gl {a b:Int} (ha:0<=a) (hb:0<=b):a/gc a b*gc a b=a/\b/gc a b*gc a b=b:=by
 obtain⟨A,rfl⟩:=ANR ha;obtain⟨B,rfl⟩:=ANR hb;rw[Jf];have h1:=Nat.div_mul_cancel (Nat.gcd_dvd_left A B);have h2:=Nat.div_mul_cancel (Nat.gcd_dvd_right A B);exact⟨by exact_mod_cast h1,by exact_mod_cast h2⟩
theorem ADX {a:Int} (h:0<=a):gc a a=a:=by
 obtain⟨A,rfl⟩:=ANR h;rw[Jf,Nat.gcd_self]
theorem T8 {a b:Int} (ha:0<=a) (hb:0<=b) (h:0<a\/0<b):gc (a/gc a b) (b/gc a b)=1:=by
 have hg:=OE h;have hs:=Gl ha hb;have h1:0<=a/gc a b:=ANd ha (by omega);have h2:0<=b/gc a b:=ANd hb (by omega);have hm:=ABt h1 h2 (Nc a b);rw[hs.1,hs.2] at hm;have:1*gc a b=gc (a/gc a b) (b/gc a b)*gc a b:=by rw[AOl];exact hm
 exact(AO2 (by omega) this).symm
theorem xZ {p q p' q':Int} (hp:0<=p) (hq:0<q) (B0:0<=p') (yO:0<q') (h:p*q'=p'*q):p/gc p q=p'/gc p' q'/\q/gc p q=q'/gc p' q':=by
 have key : ∀(a b a' b':Nat),Nat.gcd a b=1->Nat.gcd a' b'=1->0<b->0<b'->a*b'=a'*b->a=a'/\b=b':=by
  intro a b a' b' h1 h2 hb hb' he;have d1:b∣b':=by
   have:b∣a*b':=⟨a',by rw[he,APB]⟩;exact APo (Nat.Coprime.symm h1) this
  have d2:b'∣b:=by
   have:b'∣a'*b:=⟨a,by rw[<-he,APB]⟩;exact APo (Nat.Coprime.symm h2) this
  have hbb:b=b':=Nat.dvd_antisymm d1 d2;subst hbb;exact⟨Nat.eq_of_mul_eq_mul_right hb he,rfl⟩
 have g1:=OE (a:=p) (b:=q) (.inr hq);have g2:=OE (a:=p') (b:=q') (.inr yO);have s1:=Gl hp (ANL hq);have s2:=Gl B0 (ANL yO);have r1:=T8 hp (ANL hq) (.inr hq);have r2:=T8 B0 (ANL yO) (.inr yO);have a0:0<=p/gc p q:=ANd hp (by omega);have b0:0<=q/gc p q:=ANd (by omega) (by omega);have a0':0<=p'/gc p' q':=ANd B0 (by omega);have b0':0<=q'/gc p' q':=ANd (by omega) (by omega);have bp:q/gc p q≠0:=by
  intro hz;rw[hz,AOd] at s1;omega
 have bp':q'/gc p' q'≠0:=by
  intro hz;rw[hz,AOd] at s2;omega
 generalize p/gc p q=a at *;generalize q/gc p q=b at *;generalize p'/gc p' q'=a' at *;generalize q'/gc p' q'=b' at *;generalize gc p q=g at *;generalize gc p' q'=g' at *;have he:a*b'=a'*b:=by
  have h1:(a*b')*(g*g')=(a'*b)*(g*g'):=by
   have e1:(a*b')*(g*g')=(a*g)*(b'*g'):=(by grind);have e2:(a'*b)*(g*g')=(a'*g')*(b*g):=(by grind);rw[e1,e2,s1.1,s1.2,s2.1,s2.2];exact h
  have:=AOY g1 g2;exact AO2 (by omega) h1
 obtain⟨A,rfl⟩:=ANR a0;obtain⟨B,rfl⟩:=ANR b0;obtain⟨A',rfl⟩:=ANR a0';obtain⟨B',rfl⟩:=ANR b0';rw[Jf] at r1 r2;have:=key A B A' B' (by exact_mod_cast r1) (by exact_mod_cast r2) (by omega) (by omega) (by exact_mod_cast he);exact⟨by rw[this.1],by rw[this.2]⟩
theorem pS (n:Nat) : ∀x y:Int,y.toNat<=n->0<=x->0<=y->Ev (λk=>Db.l0 k x y) (gc x y):=by
 induction n with
 | zero =>
   intro x y hn h0 h1;obtain rfl:y=0:=by omega
   exact Ev.step (λk=>Db.l0.eq_2 ..) (Ev.AK rfl (Ev.same (by rw[Iv h0])))
 | succ n ih =>
   intro x y hn h0 h1;refine Ev.step (λk=>Db.l0.eq_2 ..) ?_;by_cases hy:y=0
   · exact Ev.AK hy (Ev.same (by rw[hy,Iv h0]))
   · refine Ev.AP hy ?_
     rw[AOH h0,<-ku h0 h1];have r0:=ANk x hy;have r1:=ANh x (show 0<y by omega);exact ih y (x%y) (by omega) h1 r0
theorem X0 {x y:Int} (hx:0<=x) (hy:0<y):gc x y<=y:=by
 have s:=Gl hx (ANL hy);have g:=Nc x y;have hq:0<y/gc x y:=by
  have:=ANd (ANL hy) g;rcases(show y/gc x y=0\/0<y/gc x y by omega) with h | h
  · rw[h,AOd] at s
    omega
  · exact h
 have:=ANU (show 1<=y/gc x y by omega) g;rw[s.2] at this;omega
theorem xd (n:Nat) : ∀A B:Int,B.toNat<=n->0<=A->0<=B->bl A<=640000000->bl B<=640000000->Ev (λk=>E4.l0 k (dg A) (dg B)) (dg (gc A B)):=by
 have low : ∀A B:Int,0<=A->0<=B->bl A<=640000000->bl B<=640000000-> ¬((dg B).length:Int)>1->Ev (λk=>E4.l0 k (dg A) (dg B)) (dg (gc A B)):=by
  intro A B hA hB bA bB hl;have wA:Wl (dg A):=Bg (by omega);have wB:Wl (dg B):=Bg (by omega);have hlt:=NZ hB;have hle:=bU (show(dg B).length<=1 by omega);have hW:Wp 1=18446744073709551616:=by decide
  have hB1:B<18446744073709551616:=by omega
  have N:=Tr wB;rw[Aa hB,if_pos hB1] at N;refine Ev.step (λk=>E4.l0.eq_2 ..) (Ev.AP hl (Ev.bind N ?_));by_cases hz:B=0
  · refine Ev.AK hz (Ev.same ?_)
    rw[hz,Iv hA]
  · have D:=Xz wA (d:=B) (by omega) hB1
    rw[Aa hA] at D;have r0:=ANk A hz;have r1:=ANh A (show 0<B by omega);have W:=pS (A%B).toNat B (A%B) (ANS _) hB r0;rw[ku hA hB] at W;have g0:=Nc A B;have g1:=X0 hA (show 0<B by omega);exact Ev.AP hz (Ev.bind D (Ev.bind W (Ev.bind (QT (x:=gc A B) ⟨g0,by omega⟩) (Ev.same rfl))))
 induction n with
 | zero =>
   intro A B hn hA hB bA bB;obtain rfl:B=0:=by omega
   exact low A 0 hA hB bA bB (by rw[G8];simp)
 | succ n ih =>
   intro A B hn hA hB bA bB;by_cases hl:((dg B).length:Int)>1
   · have hz:B≠0:=λk=>by rw[k,G8] at hl;simp at hl
     have wA:Wl (dg A):=Bg (by omega);have wB:Wl (dg B):=Bg (by omega);have lA:=AW A;have D:=OM wA wB (by omega);rw[Aa hA,Aa hB,if_neg hz] at D;have r0:=ANk A hz;have r1:=ANh A (show 0<B by omega);have br:=Bv (show A%B<=B by omega);refine Ev.step (λk=>E4.l0.eq_2 ..) (Ev.AK hl (Ev.bind D ?_));rw[<-ku hA hB];exact ih B (A%B) (by omega) hB r0 bB (by omega)
   · exact low A B hA hB bA bB hl
theorem xe {a b:List Int} (ha:Wl a) (hb:Wl b) (hla:a.length<=10000000) (hlb:b.length<=10000000):Ev (λk=>E4.f k a b) (dg (gc (nv a) (nv b))):=by
 have ba:=Fg ha.1;have bb:=Fg hb.1;exact Ev.bind (Ch ha) (Ev.bind (Ch hb) (xd (nv b).toNat (nv a) (nv b) (ANS _) (AN ha.1) (AN hb.1) (by omega) (by omega)))
theorem AJD {a b:Int} (ha:0<=a) (hb:0<=b) {m:Int} (h1:bl a<=m) (h2:bl b<=m):bl (gc a b)<=m:=by
 rcases(show b=0\/0<b by omega) with h | h
 · rw[h,Iv ha];exact h1
 · have:=Bv (X0 ha h)
   omega
theorem OD {a b:List Int} (ha:Wl a) (hb:Wl b) (hla:a.length<=10000000) (hlb:b.length<=10000000):Ev (λk=>FF.f k a b) (dg (nv a/gc (nv a) (nv b)),dg (nv b/gc (nv a) (nv b))):=by
 have na:=AN ha.1;have nb:=AN hb.1;have ba:=Fg ha.1;have bb:=Fg hb.1;refine Ev.bind (xe ha hb hla hlb) ?_;have g0:=Nc (nv a) (nv b);have bg:=AJD na nb (m:=640000000) (by omega) (by omega);have wg:Wl (dg (gc (nv a) (nv b))):=Bg (by omega);by_cases hz:gc (nv a) (nv b)=0
 · rw[hz,AQl,AQl]
   exact Ev.AK rfl (Ev.same rfl)
 · refine Ev.AP (λk=>hz ((C5 g0).1 (by omega))) ?_
   have D1:=OM ha wg (by omega);have D2:=OM hb wg (by omega);rw[Aa g0,if_neg hz] at D1 D2;exact Ev.bind D1 (Ev.bind D2 (Ev.same rfl))
theorem VZ {l:List Int} (h:Ws l) (h1:(dg (nv l)).length=1):0<l.length/\rd l 0=nv l/\0<nv l/\nv l<18446744073709551616:=by
 have h0:=AN h;have hlt:=NZ h0;rw[h1] at hlt;have hW:Wp 1=18446744073709551616:=by decide
 rw[hW] at hlt;have hne:nv l≠0:=λk=>by rw[k] at h1;cases h1
 cases l with
 | nil=>exact absurd rfl hne
 | cons x l =>
   have hx:=F7.1 h;have hn:=AN hx.2;have hU:=hx.1;unfold U at hU;rw[CI] at hlt hne h0 ⊢;refine⟨by simp, ?_,by omega,hlt⟩;show x=_;omega
theorem k9 (A:Int) (i:Nat):A/2^i=2*(A/2^(i+1))+A/2^i%2:=by
 rw[ANi,<-AN0 (by have:=pow_pos i;omega)];omega
theorem pT {a b:List Int} (ha:Wl a) (hb:Wl b) (hla:a.length<=200000) (hlb:b.length<=200000) (hB:0<nv b) (j:Nat) (hj:j<=20000000) :
 ∀q r:List Int,Ws q->q.length<=400000->Ws r->r.length<=400000->nv q%2^j=0->nv r<nv b->nv a/2^j=nv q/2^j*nv b+nv r ->
  Ev (λk=>BV.l0 k a b q r ((j:Int)-1)) (dg (nv a/nv b),dg (nv a%nv b)):=by
 induction j with
 | zero =>
   intro q r hq hlq hr hlr hm hlt he;refine Ev.step (λk=>BV.l0.eq_2 ..) (Ev.AP (by omega) ?_);rw[ANc,AON,AON] at he;have Uu:=AN hr;have hdiv:=(AP3 (a:=nv a) (b:=nv b) (r:=nv r) (q:=nv q) hB).2 ⟨by rw[he,ANY];omega,Uu,hlt⟩;rw[hdiv.1,hdiv.2];exact Ev.bind (Bk ⟨hq,by omega⟩) (Ev.bind (Bk ⟨hr,by omega⟩) (Ev.same rfl))
 | succ j ih =>
   intro q r hq hlq hr hlr hm hlt he;have hp:=pow_pos j;have hq0:=AN hq;have Uu:=AN hr;have Y2:=AN ha.1;have ej:((j+1:Nat):Int)-1=(j:Int):=(by omega);rw[ej];have hm':=ANa (nv q) (2^(j+1));rw[hm,AOS,ANi,ANu] at hm';have hqj:nv q/2^j=2*(nv q/(2^j*2)):=by
    conv=>lhs;rw[<-hm']
    rw[APh _ (by omega)]
   have Wg:nv q/2^j%2=0:=(by rw[hqj];exact AOh ..);have hm3:nv q%2^j=0:=(by rw[<-hm'];exact AOh ..);have hstep:=k9 (nv a) j;rw[ANi] at hstep he;refine Ev.step (λk=>BV.l0.eq_2 ..) (Ev.AK (by omega) ?_);have S:=Fp (a:=r) ⟨hr,by omega⟩ (by omega) 1;rw[Tt (by omega) (by omega),show(1:Int).toNat=1 from rfl,AOv] at S;refine Ev.bind S ?_;have hbv:=Fg hb.1;have br2:bl (nv r*2)<=12800002:=by
    have:=F1 (x:=nv r) (y:=2) Uu (by omega);have:=Bv (show nv r<=nv b by omega);have:bl 2=2:=rfl;omega
   have lr2:=AW (nv r*2);have j2 : ∀z:List Int,Ws z->z.length<=200002->nv z=nv r*2+nv a/2^j%2->Ev (λk=>BV.j2 k a b q z (j:Int)) (dg (nv a/nv b),dg (nv a%nv b)):=by
    intro z hz hlz hnz;have ANF:0<=nv a/2^j%2/\nv a/2^j%2<2:=(by omega);refine Ev.step (λk=>BV.j2.eq_2 ..) (Ev.bind (IU (a:=z) ⟨hz,by omega⟩ hb) ?_);have ew:wrap64 ((j:Int)-1)=(j:Int)-1:=AE (by omega) (by omega);rw[ew];have hAj:nv a/2^j=nv q/2^j*nv b+nv z:=by
     rw[hstep,he,hqj,hnz]
     grind
    by_cases hc:GD (nv z) (nv b)>=0
    · have hge:nv b<=nv z:=by
       unfold GD at hc;split at hc
       · omega
       · omega
      refine Ev.AK hc ?_;have D:=QU (a:=z) (b:=b) ⟨hz,by omega⟩ hb (by omega) (by omega) hge;refine Ev.bind D ?_;obtain⟨t,ht,htw,htl,htn⟩:=Qt (a:=q) ⟨hq,by omega⟩ (by omega) (i:=j) (by omega) Wg;refine Ev.bind ht ?_;have qT:=AN hz;have bz:=Fg hz;have bzb:=Bv (show nv z-nv b<=nv z by omega);have lz:=AW (nv z-nv b);have hq2:nv t/2^j=nv q/2^j+1:=by
       rw[htn,show nv q+2^j=nv q+2^j*1 by omega,AOA _ _ (by omega)]
      refine ih (by omega) t (dg (nv z-nv b)) htw (by omega) (PS _) (by omega) ?_ ?_ ?_
      · rw[htn,AQL];exact hm3
      · rw[Aa (by omega)];omega
      · rw[Aa (by omega),hq2,hAj,AOw]
        omega
    · have AMS:nv z<nv b:=by
       unfold GD at hc;split at hc
       · assumption
       · split at hc<;>omega
      exact Ev.AP hc (ih (by omega) q z hq hlq hz (by omega) hm3 AMS hAj)
   refine Ev.AX (Lv ha (by omega)) ?_;unfold Wd;rw[ANI];by_cases hbt:nv a/2^j%2=1
   · refine Ev.AK (by simp[hbt]) ?_
     obtain⟨t,ht,htw,htl,htn⟩:=Qt (a:=dg (nv r*2)) (Bg (by omega)) (by omega) (i:=0) (by omega) (by rw[Aa (by omega),ANc,AON];omega);refine Ev.bind ht (j2 t htw (by omega) ?_);rw[htn,Aa (by omega),hbt];rfl
   · refine Ev.AP (by simp[hbt]) (j2 _ (PS _) (by omega) ?_)
     rw[Aa (by omega)];omega
theorem pU {a b:List Int} (ha:Wl a) (hb:Wl b) (hla:a.length<=100000) (hlb:b.length<=100000) (hB:0<nv b):Ev (λk=>BV.f k a b) (dg (nv a/nv b),dg (nv a%nv b)):=by
 have Y2:=AN ha.1;have ba:=Fg ha.1;have bb:=Fg hb.1;have bb0:=DY hB;have ba0:=B5 (nv a);have no:Ev (λk=>BV.j0 k a b [] false) (dg (nv a/nv b),dg (nv a%nv b)):=by
  refine Ev.step (λk=>BV.j0.eq_2 ..) (Ev.AP (by decide) ?_);refine Ev.bind (Ko ha) (Ev.bind (Ko hb) ?_);obtain⟨j,hj⟩ : ∃j:Nat,(j:Int)=max 0 (bl (nv a)-bl (nv b)+1):=⟨(max 0 (bl (nv a)-bl (nv b)+1)).toNat,by omega⟩;have e:mx 0 (wrap64 ((wrap64 (bl (nv a)-bl (nv b)))+1))=(j:Int):=by
   rw[AE (n:=bl (nv a)-bl (nv b)) (by omega) (by omega),AE (by omega) (by omega)];unfold mx;generalize bl (nv a)=x at *;generalize bl (nv b)=y at *;split<;>omega
  rw[e,AE (n:=(j:Int)-1) (by omega) (by omega)];have R:=J6 ha (n:=(j:Int)) (by omega);rw[ANI] at R;refine Ev.bind R ?_;have hp:=pow_pos j;have r0:0<=nv a/2^j:=ANd Y2 (by omega);have rle:nv a/2^j<=nv a:=AOK _ Y2;have br:=Bv rle;have lr:=AW (nv a/2^j);refine pT ha hb (by omega) (by omega) hB j (by omega) [] (dg (nv a/2^j)) Hj (by simp) (PS _) (by omega) (by show(0:Int)%_=0;rw[Int.zero_emod]) ?_ ?_
  · rw[Aa r0,ANm hp]
    have l1:=Gf (nv a);have l2:=VE hB;have h3:=ANU l2 (ANL hp);rw[<-ANl] at h3;have:=Az (a:=(bl (nv a)).toNat) (b:=(bl (nv b)-1).toNat+j) (by omega);omega
  · rw[Aa r0]
    show _=(0:Int)/_*_+_;rw[AQa,AOd,APy]
 refine Ev.bind (DK ha) ?_;by_cases h1:((dg (nv a)).length:Int)=1
 · refine Ev.AK h1 (Ev.bind (DK hb) ?_)
   by_cases h2:((dg (nv b)).length:Int)=1
   · rw[h2]
     obtain⟨a1,a2,a3,a4⟩:=VZ ha.1 (by omega);obtain⟨b1,b2,b3,b4⟩:=VZ hb.1 (by omega);refine Ev.step (λk=>BV.j0.eq_2 ..) (Ev.AK rfl (Ev.AK (by omega) (Ev.AK (by omega) ?_)));rw[a2,b2];refine Ev.AP (by omega) ?_;have q0:0<=nv a/nv b:=ANd Y2 (by omega);have q1:nv a/nv b<=nv a:=AOK _ Y2;have r0:=ANk (nv a) (show nv b≠0 by omega);have r1:=ANh (nv a) hB;rw[AN5 Y2,AOH Y2,DE q0 (by omega)];have T1:=Bk (l:= [nv a/nv b]) ⟨JZ (by unfold U;omega),by simp⟩;have T2:=Bk (l:= [nv a%nv b]) ⟨JZ (by unfold U;omega),by simp⟩;rw[Is] at T1 T2;exact Ev.bind T1 (Ev.bind T2 (Ev.same rfl))
   · have:(((dg (nv b)).length:Int)==1)=false:=by rw[beq_eq_false_iff_ne];exact h2
     rw[this];exact no
 · exact Ev.AP h1 no
theorem Va {a g:List Int} (ha:Wl a) (hg:Wl g) (hla:a.length<=100000) (hlg:g.length<=100000):Ev (λk=>IX.f k a g) (dg (nv a/nv g)):=by
 have hg0:=AN hg.1;refine Ev.bind (DK hg) ?_;by_cases hz:nv g=0
 · rw[hz,AQl]
   exact Ev.AK rfl (Ev.same rfl)
 · refine Ev.AP (λk=>hz ((C5 hg0).1 (by omega))) ?_
   have C:=IU hg (b:= [1]) ⟨JZ (by unfold U;omega),by decide⟩;rw[Is] at C;refine Ev.bind C ?_;by_cases h1:nv g=1
   · rw[h1,AON]
     exact Ev.AK rfl (Ev.bind (Bk ha) (Ev.same rfl))
   · refine Ev.AP ?_ (Ev.bind (pU ha hg hla hlg (by omega)) (Ev.same rfl))
     unfold GD;split
     · omega
     · split<;>omega
theorem cC {x:Int} (h:0<x) : ∃n:Nat,tz x=n/\x=x/2^n*2^n/\x/2^n%2=1:=by
 obtain⟨n,h1,h2,h3⟩:=VF h;refine⟨n,h1, ?_,h2⟩;have key : ∀j:Nat,j<=n->x%2^j=0:=by
  intro j;induction j with
  | zero=>intro _;rw[ANc,AOu]
  | succ j ih =>
    intro hj;rw[ANi,GN x (pow_pos j),h3 j (by omega),ih (by omega)];simp
 have hd:=ANa x (2^n);rw[key n (ANS _),AOS,ANY] at hd;exact hd.symm
theorem lB (n:Nat) : ∀x y:Int,y.toNat<=n->0<x->0<=y->x<18446744073709551616->y<18446744073709551616->Ev (λk=>BU.l0 k x y) [gc x y]:=by
 induction n with
 | zero =>
   intro x y hn h0 h1 h2 h3;obtain rfl:y=0:=by omega
   refine Ev.step (λk=>BU.l0.eq_2 ..) (Ev.AP (by omega) (Ev.same ?_));rw[Iv (by omega)]
 | succ n ih =>
   intro x y hn h0 h1 h2 h3;refine Ev.step (λk=>BU.l0.eq_2 ..) ?_;by_cases hy:y>0
   · refine Ev.AK hy (Ev.AP (by omega) ?_)
     rw[AOH (by omega)];have r0:=ANk x (show y≠0 by omega);have r1:=ANh x hy;rw[<-ku (by omega) h1];exact ih y (x%y) (by omega) hy r0 h3 (by omega)
   · obtain rfl:y=0:=by omega
     refine Ev.AP (by omega) (Ev.same ?_);rw[Iv (by omega)]
theorem tF {x:Int} (h:0<x) (hb:bl x<=6400000):Ev (λk=>B8.f k (dg x)) (tz x)/\ ∃n:Nat,tz x=n/\n<=6400000/\x=x/2^n*2^n/\x/2^n%2=1/\0<x/2^n/\x/2^n<=x/\Ev (λk=>BB.f k (dg x) (n:Int)) (dg (x/2^n)):=by
 have w:Wl (dg x):=Bg (by omega);have E:=OS w;rw[Aa (by omega)] at E;obtain⟨n,h1,h2,h3⟩:=cC h;have hlt:=gH h;have S:=J6 w (n:=(n:Int)) (by omega);rw[Aa (by omega),ANI] at S;have hp:=pow_pos n;have q0:0<=x/2^n:=ANd (by omega) (by omega);have q1:x/2^n<=x:=AOK _ (by omega);exact⟨E,n,h1,by omega,h2,h3,by omega,q1,S⟩
theorem lC {c:Int} (hc0:0<=c) (hc:c<=64000) (n:Nat) : ∀x y:Int,(x+y).toNat<=n->0<x->0<y->x%2=1->y%2=1->bl x<=6400000->bl y<=6400000->Ev (λk=>BU.l1 k c (dg x) (dg y)) (dg (gc x y*2^c.toNat)):=by
 induction n with
 | zero=>intro x y hn h0 h1;omega
 | succ n ih =>
   intro x y hn h0 h1 ho1 ho2 hb1 l6;have wx:Wl (dg x):=Bg (by omega);have wy:Wl (dg y):=Bg (by omega);have lx:=AW x;have ly:=AW y;have C:=IU wx wy;rw[Aa (by omega),Aa (by omega)] at C;refine Ev.step (λk=>BU.l1.eq_2 ..) (Ev.bind C ?_);have more : ∀u v:Int,0<u->0<v->u%2=1->v%2=1->bl u<=6400000->bl v<=6400000->v<u->(u+v).toNat<=n+1 ->
    Ev (λk=>(Cz.f k (dg u) (dg v)).bind λt=>(B8.f k t).bind λs=>(BB.f k t s).bind λz=>BU.l1 k c z (dg v)) (dg (gc u v*2^c.toNat)):=by
    intro u v hu hv hou hov hbu hbv hlt hs;have wu:Wl (dg u):=Bg (by omega);have wv:Wl (dg v):=Bg (by omega);have lu:=AW u;have lv:=AW v;have D:=QU wu wv (by omega) (by omega) (by rw[Aa (by omega),Aa (by omega)];omega);rw[Aa (by omega),Aa (by omega)] at D;have bd:=Bv (show u-v<=u by omega);obtain⟨E,m,hm1,hm2,hm3,hm4,hm5,hm6,S⟩:=tF (x:=u-v) (by omega) (by omega);rw[hm1] at E;refine Ev.bind D (Ev.bind E (Ev.bind S ?_));have bq:=Bv hm6;have g1:gc u v=gc ((u-v)/2^m) v:=by
     rw[<-AF8 (by omega) (show v<=u by omega)]
     conv=>lhs;rw[hm3]
     exact ABu (by omega) (by omega) hov m
    rw[g1];exact ih _ v (by omega) hm5 hv hm4 hov (by omega) hbv
   by_cases he:x=y
   · refine Ev.AK (by unfold GD;rw[if_neg (by omega),if_neg (by omega)]) ?_
     have S:=Fp wx (by omega) c;rw[Aa (by omega),Tt hc0 (by omega)] at S;refine Ev.bind S (Ev.same ?_);rw[<-he,ADX (by omega)]
   · by_cases hlt:x<y
     · refine Ev.AP (by unfold GD;rw[if_pos hlt];omega) (Ev.AK (by unfold GD;rw[if_pos hlt];omega) ?_)
       rw[Ip];exact more y x h1 h0 ho2 ho1 l6 hb1 hlt (by omega)
     · have hcm:GD x y=1:=by unfold GD;rw[if_neg hlt,if_pos (by omega)]
       refine Ev.AP (by rw[hcm];omega) (Ev.AP (by rw[hcm];omega) ?_);exact more x y h0 h1 ho1 ho2 hb1 l6 (by omega) (by omega)
theorem pV {a b:List Int} (ha:Wl a) (hb:Wl b) (hla:a.length<=100000) (hlb:b.length<=100000) (ht:0<nv b->tz (nv b)<=64000):Ev (λk=>BU.f k a b) (dg (gc (nv a) (nv b))):=by
 have Y2:=AN ha.1;have hB0:=AN hb.1;have ba:=Fg ha.1;have bb:=Fg hb.1;refine Ev.bind (DK ha) ?_;by_cases hza:nv a=0
 · refine Ev.AK (by rw[hza];rfl) (Ev.bind (Bk hb) (Ev.same ?_))
   rw[hza,Ip,Iv hB0]
 · refine Ev.AP (λk=>hza ((C5 Y2).1 (by omega))) (Ev.bind (DK hb) ?_)
   by_cases hzb:nv b=0
   · refine Ev.AK (by rw[hzb];rfl) (Ev.bind (Bk ha) (Ev.same ?_))
     rw[hzb,Iv Y2]
   · refine Ev.AP (λk=>hzb ((C5 hB0).1 (by omega))) (Ev.bind (DK ha) ?_)
     have long:Ev (λk=>BU.j0 k a b false) (dg (gc (nv a) (nv b))):=by
      refine Ev.step (λk=>BU.j0.eq_2 ..) (Ev.AP (by decide) ?_);obtain⟨n,n1,n2,n3⟩:=cC (show 0<nv a by omega);obtain⟨m,m1,m2,m3⟩:=cC (show 0<nv b by omega);have tn:=gH (show 0<nv a by omega);have tm:=gH (show 0<nv b by omega);have Ea:=OS ha;have Eb:=OS hb;rw[n1] at Ea tn;have ht:=ht (by omega);rw[m1] at Eb tm ht;have Sa:=J6 ha (n:=(n:Int)) (by omega);have Sb:=J6 hb (n:=(m:Int)) (by omega);rw[ANI] at Sa Sb;refine Ev.bind Ea (Ev.bind Eb (Ev.bind Ea (Ev.bind Sa (Ev.bind Eb (Ev.bind Sb ?_)))));have qa:0<=nv a/2^n:=ANd Y2 (by have:=pow_pos n;omega);have qb:0<=nv b/2^m:=ANd hB0 (by have:=pow_pos m;omega);have qa1:nv a/2^n<=nv a:=AOK _ Y2;have qb1:nv b/2^m<=nv b:=AOK _ hB0;have ba1:=Bv qa1;have bb1:=Bv qb1;have hmn:mn (n:Int) (m:Int)=((min n m:Nat):Int):=(by unfold mn;split<;>omega);rw[hmn];have L:=lC (c:=((min n m:Nat):Int)) (by omega) (by omega) (nv a/2^n+nv b/2^m).toNat (nv a/2^n) (nv b/2^m) (ANS _) (by omega) (by omega) n3 m3 (by omega) (by omega);rw[ANI,<-xY qa qb n3 m3 n m,<-n2,<-m2] at L;exact L
     by_cases h1:((dg (nv a)).length:Int)=1
     · refine Ev.AK h1 (Ev.bind (DK hb) ?_)
       by_cases h2:((dg (nv b)).length:Int)=1
       · rw[h2]
         obtain⟨a1,a2,a3,a4⟩:=VZ ha.1 (by omega);obtain⟨b1,b2,b3,b4⟩:=VZ hb.1 (by omega);refine Ev.step (λk=>BU.j0.eq_2 ..) (Ev.AK rfl (Ev.AK (by omega) (Ev.AK (by omega) ?_)));rw[a2,b2];have g1:=OE (a:=nv a) (b:=nv b) (.inl a3);have g2:=Gl Y2 hB0;have g3:gc (nv a) (nv b)<=nv a:=by
          have hq:0<nv a/gc (nv a) (nv b):=by
           rcases(show nv a/gc (nv a) (nv b)<=0\/0<nv a/gc (nv a) (nv b) by omega) with h | h
           · have:=ANd Y2 (show 0<=gc (nv a) (nv b) by omega)
             rw[show nv a/gc (nv a) (nv b)=0 by omega,AOd] at g2;omega
           · exact h
          have:=ANU (show 1<=nv a/gc (nv a) (nv b) by omega) (ANL g1);rw[g2.1] at this;omega
         have L:=lB (nv b).toNat (nv a) (nv b) (ANS _) a3 (by omega) a4 b4;rw[LN g1,aX (by omega),ANv (by omega) (by omega)];exact L
       · have:(((dg (nv b)).length:Int)==1)=false:=by rw[beq_eq_false_iff_ne];exact h2
         rw[this];exact long
     · exact Ev.AP h1 long
def ab (x:Int):Int:=if x<0 then -x else x
theorem DN (x:Int):0<=ab x:=by unfold ab;split<;>omega
theorem Ro {x:Int} :ab x=0↔x=0:=by unfold ab;split<;>omega
theorem WX (x:Int) {d:Int} (h:0<d):ab (x*d)=ab x*d:=by
 unfold ab;by_cases hx:x<0
 · have:=AQS hx h
   rw[if_pos hx,if_pos this,AO0]
 · have:=ANZ (show 0<=x by omega) (ANL h)
   rw[if_neg hx,if_neg (by omega)]
theorem X1 (x:Int) {d:Int} (h:0<d):x*d<0↔x<0:=by
 constructor
 · intro h1
   rcases AN7 x 0 with h2 | h2
   · exact h2
   · have:=ANZ h2 (ANL h)
     omega
 · intro h1
   exact AQS h1 h
def Rq (S D:Int):Bool × List Int × List Int:=if S=0 then(false,[],[1]) else(decide (S<0),dg (ab S/gc (ab S) D),dg (D/gc (ab S) D))
theorem fX {S D S' D':Int} (hD:0<D) (hD':0<D') (h:S*D'=S'*D):Rq S D=Rq S' D':=by
 have n1:=X1 S hD';have n2:=X1 S' hD;have a1:=WX S hD';have a2:=WX S' hD;rw[h] at n1 a1;have z:S=0↔S'=0:=by
  have z1:= @Ro S;have z2:= @Ro S';constructor
  · intro k
    rw[k,AOd] at h;exact(AQB.1 h.symm).resolve_right (by omega)
  · intro k
    rw[k,AOd] at h;exact(AQB.1 h).resolve_right (by omega)
 unfold Rq;by_cases hz:S=0
 · rw[if_pos hz,if_pos (z.1 hz)]
 · rw[if_neg hz,if_neg (λk=>hz (z.2 k))]
   have hl:=xZ (DN S) hD (DN S') hD' (by rw[<-a1,a2]);rw[hl.1,hl.2]
   congr 1
   exact decide_eq_decide.2 (n1.symm.trans n2)
theorem uh {a b:Int} (ha:0<=a) (hb:0<b):a/gc a b<=a/\b/gc a b<=b/\0<b/gc a b/\0<=a/gc a b:=by
 have g:=OE (a:=a) (b:=b) (.inr hb);have s:=Gl ha (ANL hb);have h0:0<=b/gc a b:=ANd (by omega) (by omega);refine⟨AOK _ ha,AOK _ (by omega), ?_,ANd ha (by omega)⟩;rcases(show b/gc a b=0\/0<b/gc a b by omega) with h | h
 · rw[h,AOd] at s
   omega
 · exact h
theorem bD:dg 1= [1]:=by decide
theorem U5 (S:Int) {D:Int} (hD:0<D) : ∃N E:Int,Rq S D=(decide (S<0),dg N,dg E)/\0<=N/\0<E/\N<=ab S/\E<=D/\N*D=ab S*E/\(N=0↔S=0)/\gc N E=1:=by
 unfold Rq;by_cases hz:S=0
 · rw[if_pos hz]
   refine⟨0,1, ?_,by omega,by omega,DN S,by omega, ?_,by omega,ABs (by omega)⟩
   · rw[hz,G8,bD];rfl
   · rw[hz];simp[ab]
 · rw[if_neg hz]
   have h0:=DN S;have hz2:= @Ro S;obtain⟨g1,g2,g3,g4⟩:=uh h0 hD;have g:=OE (a:=ab S) (b:=D) (.inr hD);have s:=Gl h0 (ANL hD);have r:=T8 h0 (ANL hD) (.inr hD);refine⟨_,_,rfl,g4,g3,g1,g2, ?_, ?_,r⟩
   · generalize gc (ab S) D=c at *
     generalize hN:ab S/c=N at *;generalize hE:D/c=E at *;rw[<-s.1,<-s.2]
     grind
   · constructor
     · intro k
       rw[k,AOd] at s;exact hz2.1 s.1.symm
     · intro k
       exact absurd k hz
def He (s:Bool) (N:Int):Int:=if s then -N else N
theorem gK {S D N E:Int} (hN:N*D=ab S*E) (h0:N=0↔S=0):He (decide (S<0)) N*D=S*E:=by
 unfold He;unfold ab at hN;by_cases h:S<0
 · rw[if_pos h] at hN
   rw[decide_eq_true h,if_pos rfl,AO0,hN,AO0];omega
 · rw[if_neg h] at hN
   rw[decide_eq_false h,if_neg (by decide),hN]
theorem lD {a b:List Int} (neg:Bool) (ha:Wl a) (hb:Wl b) (hla:a.length<=10000000) (hlb:b.length<=10000000) (hB:0<nv b):Ev (λk=>Ei.f k neg a b) (Rq (He neg (nv a)) (nv b)):=by
 have na:=AN ha.1;refine Ev.bind (OD ha hb hla hlb) ?_;dsimp only;rcases(show nv a=0\/0<nv a by omega) with h | h
 · have e0:gc (nv a) (nv b)=nv b:=by rw[h,Ip];exact Iv (by omega)
   have e1:Rq (He neg (nv a)) (nv b)=(false,[],[1]):=by
    rw[h];unfold Rq He;cases neg<;>rfl
   rw[e0,e1,h,AQa,Int.ediv_self (by omega),G8,bD];cases neg
   · exact Ev.AP (by decide) (Ev.same rfl)
   · exact Ev.AK rfl (Ev.same rfl)
 · have hs:=Gl (show 0<=nv a by omega) (show 0<=nv b by omega)
   have hg:=OE (a:=nv a) (b:=nv b) (.inl h);have hq:0<nv a/gc (nv a) (nv b):=by
    rcases AN7 0 (nv a/gc (nv a) (nv b)) with k | k
    · exact k
    · have:=Int.mul_nonpos_of_nonpos_of_nonneg k (show 0<=gc (nv a) (nv b) by omega)
      omega
   have e1:Rq (He neg (nv a)) (nv b)=(neg,dg (nv a/gc (nv a) (nv b)),dg (nv b/gc (nv a) (nv b))):=by
    unfold Rq;have:He neg (nv a)≠0/\ab (He neg (nv a))=nv a/\decide (He neg (nv a)<0)=neg:=by
     cases neg
     · refine⟨by unfold He;simp;omega,by unfold ab He;simp;omega,by unfold He;simp;omega⟩
     · refine⟨by unfold He;simp;omega,by unfold ab He;simp;omega,by unfold He;simp;omega⟩
    rw[if_neg this.1,this.2.1,this.2.2]
   rw[e1];have hl:dg (nv a/gc (nv a) (nv b))≠ []:=(by rw[LN hq];exact List.cons_ne_nil _ _);cases neg
   · exact Ev.AP (by decide) (Ev.same rfl)
   · refine Ev.AK rfl (Ev.same ?_)
     have:0<(dg (nv a/gc (nv a) (nv b))).length:=List.length_pos_iff.2 hl;rw[decide_eq_true (show((dg (nv a/gc (nv a) (nv b))).length:Int)>0 by omega)]
theorem Tn {a b:List Int} (neg:Bool) (ha:Wl a):Ev (λk=>Gk.f k neg a b) (if nv a=0 then 0 else if neg then -1 else 1):=by
 have na:=AN ha.1;refine Ev.bind (F0 ha) ?_;by_cases h:nv a=0
 · rw[if_pos h,h]
   exact Ev.AK rfl (Ev.same rfl)
 · rw[if_neg h]
   have:=DY (x:=nv a) (by omega);refine Ev.AP (by omega) ?_;cases neg
   · exact Ev.AP (by decide) (Ev.same rfl)
   · exact Ev.AK rfl (Ev.same rfl)
theorem ADk (neg:Bool) {n d:Int} (hn:0<n):Rq (He neg n) d=(neg,dg (n/gc n d),dg (d/gc n d)):=by
 cases neg
 · show Rq n d=_
   have:ab n=n:=(by unfold ab;rw[if_neg (by omega)]);unfold Rq;rw[if_neg (show¬n=0 by omega),decide_eq_false (show¬n<0 by omega),this]
 · show Rq (-n) d=_
   have:ab (-n)=n:=(by unfold ab;rw[if_pos (by omega)];omega);unfold Rq;rw[if_neg (show¬ -n=0 by omega),decide_eq_true (show -n<0 by omega),this]
theorem ADY (neg:Bool) (d:Int):Rq (He neg 0) d=(false,[],[1]):=by
 unfold Rq He;cases neg<;>rfl
theorem lF {a b:List Int} (neg:Bool) (ha:Wl a) (hb:Wl b) (hla:a.length<=100000) (hlb:b.length<=100000) (hB:0<nv b) (ht:tz (nv b)<=64000):Ev (λk=>HJ.f k neg a b) (Rq (He neg (nv a)) (nv b)):=by
 have Y2:=AN ha.1;refine Ev.bind (DK ha) ?_;by_cases hz:nv a=0
 · rw[hz,ADY]
   exact Ev.AK rfl (Ev.same rfl)
 · rw[ADk neg (by omega)]
   refine Ev.AP (λk=>hz ((C5 Y2).1 (by omega))) (Ev.bind (pV ha hb hla hlb (λ_=>ht)) ?_);have g:=Nc (nv a) (nv b);have gle:gc (nv a) (nv b)<=nv a:=by
    have s:=Gl Y2 (ANL hB);have l:=uh (a:=nv b) (b:=nv a) (ANL hB) (by omega);rw[Ip] at l;have:=ANU (show 1<=nv a/gc (nv a) (nv b) by omega) g;rw[s.1] at this;omega
   have ba:=Fg ha.1;have bg:=Bv gle;have lg:=AW (gc (nv a) (nv b));have P1:=Va ha (g:=dg (gc (nv a) (nv b))) (Bg (by omega)) hla (by omega);have P2:=Va hb (g:=dg (gc (nv a) (nv b))) (Bg (by omega)) hlb (by omega);rw[Aa g] at P1 P2;exact Ev.bind P1 (Ev.bind P2 (Ev.same rfl))
theorem Vb {a b:List Int} (neg:Bool) (ha:Wl a) (hb:Wl b) (hla:a.length<=1000) (hlb:b.length<=1000) (hB:0<nv b):Ev (λk=>HJ.f k neg a b) (Rq (He neg (nv a)) (nv b)):=by
 have bb:=Fg hb.1;exact lF neg ha hb (by omega) (by omega) hB (by have:=gH hB;omega)
def Fit (S D:Int):Prop:=0<D/\bl (ab S)<=14000/\bl D<=14000
theorem rm {S D:Int} (h:Fit S D) : ∃N E:Int,Rq S D=(decide (S<0),dg N,dg E)/\0<=N/\0<E/\bl N<=14000/\bl E<=14000/\He (decide (S<0)) N*D=S*E/\(N=0↔S=0):=by
 obtain⟨N,E,h1,h2,h3,h4,h5,h6,h7,h8⟩:=U5 S h.1;have:=Bv h4;have:=Bv h5;have:=h.2;exact⟨N,E,h1,h2,h3,by omega,by omega,gK h6 h7,h7⟩
theorem ACf {S D:Int} (h:Fit S D):Fit (-S) D:=by
 have:ab (-S)=ab S:=by unfold ab;split<;>split<;>omega
 unfold Fit;rw[this];exact h
def ACg (x:Int):Int:=if x=0 then 0 else if x<0 then -1 else 1
theorem eH {a b:List Int} (hl:a.length=b.length) (ha:a.length<=1000000) (d:Nat) : ∀i:Nat,i+d=a.length->a.take i=b.take i->Ev (λk=>Ca.l0 k a b (a.length:Int) i) (decide (a=b)):=by
 induction d with
 | zero =>
   intro i hi he;refine Ev.step (λk=>Ca.l0.eq_2 ..) (Ev.AP (by omega) (Ev.same ?_));rw[ANW (by omega),ANW (by omega)] at he;rw[decide_eq_true he]
 | succ d ih =>
   intro i hi he;have e:wrap64 ((i:Int)+1)=((i+1:Nat):Int):=(by rw[AE (by omega) (by omega)];omega);refine Ev.step (λk=>Ca.l0.eq_2 ..) (Ev.AK (by omega) (Ev.AK (by omega) (Ev.AK (by omega) (Ev.AK (by omega) ?_))));by_cases h:rd a (i:Int)=rd b (i:Int)
   · refine Ev.AK h ?_
     rw[e];exact ih (i+1) (by omega) (by rw[HQ (by omega),HQ (by omega),he,h])
   · refine Ev.AP h (Ev.same ?_)
     rw[decide_eq_false (λk=>h (by rw[k]))]
theorem S8 {a b:List Int} (ha:a.length<=1000000):Ev (λk=>Ca.f k a b) (decide (a=b)):=by
 by_cases h:(a.length:Int)=(b.length:Int)
 · exact Ev.AK h (eH (by omega) ha a.length 0 (by omega) rfl)
 · exact Ev.AP h (Ev.same (by rw[decide_eq_false (λk=>h (by rw[k]))]))
theorem VI {s s':Bool} {a b a' b':List Int} (ha:a.length<=1000000) (hb:b.length<=1000000):Ev (λk=>HK.f k s a b s' a' b') (decide ((s,a,b)=(s',a',b'))):=by
 by_cases hs:s=s'
 · refine Ev.AK (by rw[hs];simp) (Ev.bind (S8 ha) ?_)
   by_cases h1:a=a'
   · refine Ev.AK (decide_eq_true h1) (Ev.bind (S8 hb) (Ev.same ?_))
     congr 1
     rw[hs,h1];simp
   · refine Ev.AP (by rw[decide_eq_false h1];decide) (Ev.same ?_)
     rw[decide_eq_false];simp[h1]
 · refine Ev.AP (by simp[hs]) (Ev.same ?_)
   rw[decide_eq_false];simp[hs]
theorem tG {x y:Int} (hx:0<=x) (hy:0<=y) (bx:bl x<=600000000) (zj:bl y<=600000000):Ev (λk=>LP.f k (dg x) (dg y)) (decide (x=y)):=by
 have w1:Wl (dg x):=Bg (by omega);have w2:Wl (dg y):=Bg (by omega);have R1:=Xv w1;have R2:=Xv w2;have C:=Ry w1 w2;rw[Aa hx,decide_eq_true rfl] at R1;rw[Aa hy,decide_eq_true rfl] at R2;rw[Aa hx,Aa hy] at C;refine Ev.AX R1 (Ev.AK rfl (Ev.AX R2 (Ev.AK rfl (Ev.bind C (Ev.same ?_)))))
 congr 1
 unfold GD;by_cases h:x=y
 · rw[decide_eq_true h,if_neg (by omega),if_neg (by omega)];rfl
 · rw[decide_eq_false h]
   split
   · rfl
   · rw[if_pos (by omega)];rfl
theorem gL {x y:Int} (s s':Bool) (hx:0<=x) (hy:0<=y) (bx:bl x<=600000000) (zj:bl y<=600000000) :
 ∃(t:Bool) (m:Int),Ev (λk=>MI.f k s (dg x) s' (dg y)) (t,dg m)/\0<=m/\bl m<=600000001/\He t m=He s x+He s' y:=by
 have w1:Wl (dg x):=Bg (by omega);have w2:Wl (dg y):=Bg (by omega);have l1:=AW x;have l2:=AW y;by_cases hs:(s==s')=true
 · have e:=eq_of_beq hs
   have A:=Wh w1 w2 (by omega) (by omega);rw[Aa hx,Aa hy] at A;refine⟨s,x+y,Ev.AK hs (Ev.bind A (Ev.same rfl)),by omega, ?_, ?_⟩
   · have:=WY hx hy (m:=600000000) bx zj;omega
   · rw[<-e];unfold He;cases s<;>simp<;>omega
 · have e:s'= !s:=by cases s<;>cases s'<;>simp_all
   by_cases hge:y<=x
   · have S:=W4 w1 w2 (by rw[Aa hx,Aa hy];exact hge)
     rw[Aa hx,Aa hy] at S;refine⟨s,x-y,Ev.AP hs (Ev.bind S (Ev.AK rfl (Ev.same rfl))),by omega, ?_, ?_⟩
     · have:=Bv (show x-y<=x by omega);omega
     · rw[e];unfold He;cases s<;>simp<;>omega
   · have N:=sr w1 w2 (by rw[Aa hx,Aa hy];omega)
     have S:=W4 w2 w1 (by rw[Aa hx,Aa hy];omega);rw[Aa hx,Aa hy] at S;refine⟨s',y-x,Ev.AP hs (Ev.bind N (Ev.AP (by decide) (Ev.bind S (Ev.same rfl)))),by omega, ?_, ?_⟩
     · have:=Bv (show y-x<=y by omega);omega
     · rw[e];unfold He;cases s<;>simp<;>omega
theorem OG {x:Int} (hx:0<x) (bx:bl x<=600000000):Ev (λk=>Gr.f k (dg x)) (dg x):=by
 have B:=F0 (l:=dg x) (Bg (by omega));rw[Aa (by omega)] at B;have:=DY hx;exact Ev.bind B (Ev.AP (by omega) (Ev.same rfl))
theorem WZ {n d:Int} (neg:Bool) (hn:0<=n) (hd:0<d) (bn:bl n<=630000000) (bd:bl d<=630000000):Ev (λk=>Ei.f k neg (dg n) (dg d)) (Rq (He neg n) d):=by
 have ln:=AW n;have ld:=AW d;have:=lD neg (a:=dg n) (b:=dg d) (Bg (by omega)) (Bg (by omega)) (by omega) (by omega) (by rw[Aa (by omega)];exact hd)
 rwa [Aa hn,Aa (by omega)] at this
def wj (S D:Int):Prop:=0<D/\bl (ab S)<=100000000/\bl D<=100000000
theorem Fit.big {S D:Int} (h:Fit S D):wj S D:=⟨h.1,by have:=h.2.1;omega,by have:=h.2.2;omega⟩
theorem ZJ {S D:Int} (h:wj S D) : ∃N E:Int,Rq S D=(decide (S<0),dg N,dg E)/\0<=N/\0<E/\bl N<=100000000/\bl E<=100000000/\He (decide (S<0)) N*D=S*E/\(N=0↔S=0):=by
 obtain⟨N,E,h1,h2,h3,h4,h5,h6,h7,h8⟩:=U5 S h.1;have:=Bv h4;have:=Bv h5;have:=h.2;exact⟨N,E,h1,h2,h3,by omega,by omega,gK h6 h7,h7⟩
theorem xg {S D S' D':Int} (h:wj S D) (h':wj S' D'):Ev (λk=>Iw.f k (Rq S D).1 (Rq S D).2.1 (Rq S D).2.2 (Rq S' D').1 (Rq S' D').2.1 (Rq S' D').2.2) (Rq (S*D'+S'*D) (D*D')):=by
 obtain⟨N,E,h1,h2,h3,h4,h5,h6,h7⟩:=ZJ h;obtain⟨N',E',k1,k2,k3,k4,k5,k6,k7⟩:=ZJ h';rw[h1,k1];dsimp only;have dd:0<D*D':=AOY h.1 h'.1;refine Ev.bind (tG (ANL h3) (ANL k3) (by omega) (by omega)) ?_;by_cases hE:E=E'
 · refine Ev.AK (decide_eq_true hE) ?_
   obtain⟨t,m,q1,q2,q3,q4⟩:=gL (decide (S<0)) (decide (S'<0)) h2 k2 (by omega) (by omega);refine Ev.bind q1 (Ev.bind (OG h3 (by omega)) (Ev.bind (WZ t q2 h3 (by omega) (by omega)) (Ev.same ?_)));rw[q4]
   congr 1
   have e:Rq (He (decide (S<0)) N+He (decide (S'<0)) N') E=Rq (S*D'+S'*D) (D*D'):=by
    refine fX h3 dd ?_;generalize He (decide (S<0)) N=σ at *;generalize He (decide (S'<0)) N'=σ' at *;subst hE;have a1:(σ+σ')*(D*D')=(σ*D)*D'+(σ'*D')*D:=(by grind);have a2:(S*D'+S'*D)*E=(S*E)*D'+(S'*E)*D:=(by grind);rw[a1,a2,h6,k6]
   rw[e]
 · refine Ev.AP (by simp[hE]) ?_
   have lN:=AW N;have lE:=AW E;have lN':=AW N';have lE':=AW E';have M1:=OT (a:=dg N) (b:=dg E') (Bg (by omega)) (Bg (by omega)) (by omega) (by omega);have M2:=OT (a:=dg N') (b:=dg E) (Bg (by omega)) (Bg (by omega)) (by omega) (by omega);have M3:=OT (a:=dg E) (b:=dg E') (Bg (by omega)) (Bg (by omega)) (by omega) (by omega);rw[Aa h2,Aa (ANL k3)] at M1;rw[Aa k2,Aa (ANL h3)] at M2;rw[Aa (ANL h3),Aa (ANL k3)] at M3;have b1:=F1 h2 (ANL k3);have b2:=F1 k2 (ANL h3);have b3:=F1 (ANL h3) (ANL k3);have x0:0<=N*E':=ANZ h2 (ANL k3);have y0:0<=N'*E:=ANZ k2 (ANL h3);have d0:0<E*E':=AOY h3 k3;obtain⟨t,m,q1,q2,q3,q4⟩:=gL (decide (S<0)) (decide (S'<0)) x0 y0 (by omega) (by omega);refine Ev.bind M1 (Ev.bind M2 (Ev.bind q1 (Ev.bind M3 (Ev.bind (OG d0 (by omega)) (Ev.bind (WZ t q2 d0 (by omega) (by omega)) (Ev.same ?_))))));rw[q4]
   congr 1
   have e:Rq (He (decide (S<0)) (N*E')+He (decide (S'<0)) (N'*E)) (E*E')=Rq (S*D'+S'*D) (D*D'):=by
    refine fX d0 dd ?_;have m1:He (decide (S<0)) (N*E')=He (decide (S<0)) N*E':=(by unfold He;cases decide (S<0)<;>simp[AO0]);have m2:He (decide (S'<0)) (N'*E)=He (decide (S'<0)) N'*E:=(by unfold He;cases decide (S'<0)<;>simp[AO0]);rw[m1,m2];generalize He (decide (S<0)) N=σ at *;generalize He (decide (S'<0)) N'=σ' at *;have a1:(σ*E'+σ'*E)*(D*D')=(σ*D)*(D'*E')+(σ'*D')*(D*E):=(by grind);have a2:(S*D'+S'*D)*(E*E')=(S*E)*(D'*E')+(S'*E')*(D*E):=(by grind);rw[a1,a2,h6,k6]
   rw[e]
theorem fW {S D S' D':Int} (h:Fit S D) (h':Fit S' D'):Ev (λk=>Iw.f k (Rq S D).1 (Rq S D).2.1 (Rq S D).2.2 (Rq S' D').1 (Rq S' D').2.1 (Rq S' D').2.2) (Rq (S*D'+S'*D) (D*D')):=xg h.big h'.big
theorem VH {n:Int} (h0 : -9223372036854775808<=n) (h1:n<=9223372036854775807):Ev (λk=>Qn.f k n) (Rq n 1):=by
 have g:ab n/gc (ab n) 1=ab n/\(1:Int)/gc (ab n) 1=1:=by
  rw[ABs (DN n),AON];exact⟨rfl,rfl⟩
 by_cases hn:n<0
 · have e:IntKind.u64.wrap (-(IntKind.u64.wrap n))= -n:=by
    show Int.emod _ _=_;have:IntKind.u64.wrap n=n+18446744073709551616:=by
     show n%18446744073709551616=_;omega
    rw[this];show(-(n+18446744073709551616))%18446744073709551616=_;omega
   refine Ev.AK hn ?_;rw[e];refine Ev.bind (QT (by unfold U;omega)) (Ev.AX (a:= [1]) rfl (Ev.same ?_));unfold Rq;rw[if_neg (by omega),g.1,g.2,bD,decide_eq_true hn];unfold ab;rw[if_pos hn]
 · refine Ev.AP hn ?_
   rw[DE (n:=n) (by omega) (by omega)];refine Ev.bind (QT (by unfold U;omega)) (Ev.AX (a:= [1]) rfl (Ev.same ?_));unfold Rq;by_cases hz:n=0
   · rw[if_pos hz,hz,G8]
   · rw[if_neg hz,g.1,g.2,bD,decide_eq_false hn]
     unfold ab;rw[if_neg hn]
theorem sI {n:Int} (h0 : -9223372036854775808<=n) (h1:n<=9223372036854775807):Ev (λk=>OQ.f k n) (Rq n 1):=by
 have w1:Wl [1]:=⟨JZ (by unfold U;omega),by decide⟩;by_cases hn:n<0
 · have e:IntKind.u64.wrap (-(IntKind.u64.wrap n))= -n:=by
    have:IntKind.u64.wrap n=n+18446744073709551616:=by
     show n%18446744073709551616=_;omega
    rw[this];show(-(n+18446744073709551616))%18446744073709551616=_;omega
   refine Ev.AK hn ?_;rw[e];have M:=Vb true (a:= [-n]) (b:= [1]) ⟨JZ (by unfold U;omega),by simp⟩ w1 (by simp) (by decide) (by rw[Is];omega);rw[Is,Is,show He true (-n)=n by unfold He;simp] at M;exact Ev.bind M (Ev.same rfl)
 · refine Ev.AP hn ?_
   rw[DE (n:=n) (by omega) (by omega)];have M:=Vb false (a:= [n]) (b:= [1]) ⟨JZ (by unfold U;omega),by simp⟩ w1 (by simp) (by decide) (by rw[Is];omega);rw[Is,Is,show He false n=n by unfold He;simp] at M;exact Ev.bind M (Ev.same rfl)
theorem AFX {S D:Int} (h:Fit S D):(Rq S D).2.1.length<=300/\(Rq S D).2.2.length<=300/\Wl (Rq S D).2.1/\Wl (Rq S D).2.2:=by
 obtain⟨N,E,h1,h2,h3,h4,h5,h6,h7⟩:=rm h;have a:=AW N;have b:=AW E;rw[h1];dsimp only;exact⟨by omega,by omega,Bg (by omega),Bg (by omega)⟩
end Go.Proofs.YtjocbnjpjihpnaaGreat.M
