/- What the functions answer, over plain numbers. -/
import Derived.Laws.BitsLemmas
import Derived.Test.YtjocbnjpjihpnaaGreatWWa
import Derived.Test.YtjocbnjpjihpnaaGreatBB
namespace Go.Proofs.YtjocbnjpjihpnaaGreat.M
open Go.RowKit Go.Proofs.YtjocbnjpjihpnaaGreat.P Go.Proofs.YtjocbnjpjihpnaaGreatW.AD Go.Proofs.YtjocbnjpjihpnaaGreatW.AU Go.Proofs.YtjocbnjpjihpnaaGreatW.Ac
set_option linter.unusedVariables false
theorem wu (n:Int):IntKind.u64.wrap n=n%18446744073709551616:=by simp[IntKind.wrap,IntKind.bits,IntKind.signed]
theorem DY {n:Int} (h0:0<=n) (h1:n<18446744073709551616):IntKind.u64.wrap n=n:=by rw[wu];omega
theorem AE {n:Int} (h0 : -9223372036854775808<=n) (h1:n<=9223372036854775807):wrap64 n=n:=by unfold wrap64;omega
theorem bU : ∀n:Int,0<=n->n<2^64->IntKind.u64.wrap n=n:=λn h0 h1=>DY h0 (by omega)
theorem wf_u64 {x:Int} (h:(Lit.int .u64 x).wf=true):0<=x/\x<18446744073709551616:=by
 simp[Lit.wf,Go.IntKind.min,IntKind.max,IntKind.bits,IntKind.signed] at h;omega
theorem wf_i64 {x:Int} (h:(Lit.int .i64 x).wf=true) : -9223372036854775808<=x/\x<=9223372036854775807:=by
 simp[Lit.wf,Go.IntKind.min,IntKind.max,IntKind.bits,IntKind.signed] at h;omega
theorem W7 (i:Nat) (hi:i<=64) (x:Int) (h0:0<=x) (h1:x<18446744073709551616):Go.bits .and .u64 x (2^i-1)=x%2^i :=
 bits_mask .u64 64 (by decide) bU i hi x h0 (by omega)
theorem UX (x:Int) (h0:0<=x) (h1:x<18446744073709551616):Go.bits .and .u64 x 4294967295=x%4294967296:=W7 32 (by decide) x h0 h1
theorem AJH (x:Int) (h0:0<=x) (h1:x<18446744073709551616):Go.bits .and .u64 x 1=x%2:=W7 1 (by decide) x h0 h1
theorem zC (x:Int) (h0:0<=x) (h1:x<18446744073709551616):Go.bits .and .u64 x 4503599627370495=x%4503599627370496:=W7 52 (by decide) x h0 h1
theorem AJG (x:Int) (h0:0<=x) (h1:x<18446744073709551616):Go.bits .and .u64 x 2047=x%2048:=W7 11 (by decide) x h0 h1
theorem F6 (i:Nat) (x y:Int) (hx0:0<=x) (hx:x%2^i=0) (hx1:x<18446744073709551616) (hy0:0<=y) (hy:y<2^i) (hy1:y<18446744073709551616):Go.bits .or .u64 x y=x+y :=
 bits_join .u64 64 (by decide) bU i x y hx0 hx (by omega) hy0 hy (by omega)
theorem eG (a b:Nat) (ha:a<2^64) (hb:b<2^64):Go.bits .or .u64 a b=((a ||| b:Nat):Int):=(bits_nat .u64 64 (by decide) bU a b ha hb).2
theorem AFI (a b:Nat) (ha:a<2^64) (hb:b<2^64):Go.bits .and .u64 a b=((a &&& b:Nat):Int):=(bits_nat .u64 64 (by decide) bU a b ha hb).1
theorem or_comm (x y:Int) (hx0:0<=x) (hx1:x<18446744073709551616) (hy0:0<=y) (hy1:y<18446744073709551616):Go.bits .or .u64 x y=Go.bits .or .u64 y x:=by
 obtain⟨a,rfl⟩:=AP0 hx0;obtain⟨b,rfl⟩:=AP0 hy0;rw[eG a b (by omega) (by omega),eG b a (by omega) (by omega),Nat.or_comm]
theorem Wd (x y:Int) (h:y<=64):shr .u64 x y=x/2^y.toNat:=by
 unfold shr;rw[show IntKind.bits .u64=64 from rfl,AQB (by omega)]
theorem Ld (x y:Int) (h:y<=64):shl .u64 x y=x*2^y.toNat%18446744073709551616:=by
 unfold shl;rw[wu,show IntKind.bits .u64=64 from rfl,AQB (by omega)]
theorem _root_.Go.Proofs.YtjocbnjpjihpnaaGreatW.AD.Ev.AI {α:Type} {c:Prop} [Decidable c] {f g:Nat->Option α} {r:α} (h:c) (k:Ev f r):Ev (λn=>if c then f n else g n) r:=by
 obtain⟨K,k⟩:=k;exact⟨K,λn hn=>(if_pos h).trans (k n hn)⟩
theorem _root_.Go.Proofs.YtjocbnjpjihpnaaGreatW.AD.Ev.AO {α:Type} {c:Prop} [Decidable c] {f g:Nat->Option α} {r:α} (h : ¬c) (k:Ev g r):Ev (λn=>if c then f n else g n) r:=by
 obtain⟨K,k⟩:=k;exact⟨K,λn hn=>(if_neg h).trans (k n hn)⟩
theorem _root_.Go.Proofs.YtjocbnjpjihpnaaGreatW.AD.Ev.same {α:Type} {x:Option α} {r:α} (h:x=some r):Ev (λ_=>x) r:=⟨0,λ_ _=>h⟩
theorem _root_.Go.Proofs.YtjocbnjpjihpnaaGreatW.AD.Ev.dc {α:Type} {g:Nat->Option α} {r r':α} (h:Ev g r) (e:r=r'):Ev g r':=e▸h
theorem _root_.Go.Proofs.YtjocbnjpjihpnaaGreatW.AD.Ev.eqv {α:Type} {g f:Nat->Option α} {r:α} (h : ∀k,g k=f k) (k:Ev f r):Ev g r:=by
 obtain rfl:g=f:=funext h;exact k
theorem _root_.Go.Proofs.YtjocbnjpjihpnaaGreatW.AD.Ev.AZ {α β:Type} {x:Option α} {f:Nat->α->Option β} {a:α} {r:β} (h:x=some a) (k:Ev (λn=>f n a) r):Ev (λn=>x.bind (f n)) r:=Ev.bind (Ev.same h) k
def bl (x:Int):Int:=if x<=0 then 0 else((Nat.log2 x.toNat+1:Nat):Int)
theorem Lo:bl 0=0:=rfl
theorem CM (x:Int):0<=bl x:=by unfold bl;split<;>omega
theorem Ds {x:Int} (h:0<x):0<bl x:=by unfold bl;rw[if_neg (by omega)];omega
theorem HN (x:Int):x<2^(bl x).toNat:=by
 unfold bl;split
 · simp only[Int.toNat_zero,AQA];omega
 · rw[APr]
   have h:= @Nat.lt_log2_self x.toNat;have h3:((x.toNat:Nat):Int)<((2^(Nat.log2 x.toNat+1):Nat):Int):=(by exact_mod_cast h);have h4:((2^(Nat.log2 x.toNat+1):Nat):Int)=(2:Int)^(Nat.log2 x.toNat+1):=by push_cast;rfl
   rw[<-h4];omega
theorem Wj {x:Int} (h:0<x):2^(bl x-1).toNat<=x:=by
 unfold bl;rw[if_neg (by omega)];have h1:=Nat.log2_self_le (n:=x.toNat) (by omega);have h3:((2^(Nat.log2 x.toNat):Nat):Int)<=((x.toNat:Nat):Int):=by exact_mod_cast h1
 have h4:((2^(Nat.log2 x.toNat):Nat):Int)=(2:Int)^(Nat.log2 x.toNat):=by push_cast;rfl
 rw[h4] at h3;have e:(((Nat.log2 x.toNat+1:Nat):Int)-1).toNat=Nat.log2 x.toNat:=by omega
 rw[e];omega
theorem A7 {a b:Nat} (h:a<=b):(2:Int)^a<=2^b:=by
 have:=Nat.pow_le_pow_right (n:=2) (by decide) h;have h2:((2^a:Nat):Int)<=((2^b:Nat):Int):=by exact_mod_cast this
 rw[ASo,ASo] at h2;exact h2
theorem pow_pos (a:Nat):(0:Int)<2^a:=by
 have:=Nat.two_pow_pos a;have h2:(0:Int)<((2^a:Nat):Int):=by exact_mod_cast this
 rw[ASo] at h2;exact h2
theorem TX {a b:Nat} (h:(2:Int)^a<2^b):a<b:=by
 rcases AQS a b with h1 | h1
 · exact h1
 · have:=A7 h1
   omega
theorem AGy {x:Int} {n:Nat} (h1:2^n<=x) (h2:x<2^(n+1)):bl x=n+1:=by
 have hp:=pow_pos n;have hx:0<x:=by omega
 have a1:=HN x;have a2:=Wj hx;have a3:=Ds hx;have:n<(bl x).toNat:=TX (by omega);have:(bl x-1).toNat<n+1:=TX (by omega);omega
theorem CA {x:Int} {n:Nat} (h:x<2^n):bl x<=n:=by
 rcases AQf 0 x with hx | hx
 · have a2:=Wj hx
   have:(bl x-1).toNat<n:=TX (by omega);omega
 · have:bl x=0:=by unfold bl;rw[if_pos hx]
   omega
theorem RY {x:Int} (h:x<18446744073709551616):bl x<=64:=CA (n:=64) (by omega)
theorem Rg {x:Int} {s:Nat} (h:2^s<=x):bl x=bl (x/2^s)+s:=by
 have hp:=pow_pos s;have hq:1<=x/2^s:=by rw[AQm hp];omega
 have a1:=HN (x/2^s);have a2:=Wj (x:=x/2^s) (by omega);have a3:=Ds (x:=x/2^s) (by omega);obtain⟨n,hn⟩ : ∃n:Nat,bl (x/2^s)=n+1:=⟨(bl (x/2^s)-1).toNat,by omega⟩;rw[hn] at a1 a2 ⊢;have e1:((n:Int)+1).toNat=n+1:=by omega
 have e2:((n:Int)+1-1).toNat=n:=by omega
 rw[e1] at a1;rw[e2] at a2;have b1:2^n*2^s<=x:=(AQm hp).1 a2;have b2:x<2^(n+1)*2^s:=(AQL hp).1 a1;rw[<-AQK] at b1 b2;rw[AGy (n:=n+s) b1 (by rwa [show n+s+1=n+1+s by omega])];omega
def U (x:Int):Prop:=0<=x/\x<18446744073709551616
def Ws (l:List Int):Prop:= ∀x∈l,U x
def Wl (l:List Int):Prop:=Ws l/\l.length<=1000000000
def nv:List Int->Int
 | []=>0
 | x::l=>x+18446744073709551616*nv l
theorem Cb (x:Int) (l:List Int):nv (x::l)=x+18446744073709551616*nv l:=rfl
def Wp (n:Nat):Int:=18446744073709551616^n
theorem NH:Wp 0=1:=rfl
theorem DV (n:Nat):Wp (n+1)=18446744073709551616*Wp n:=by unfold Wp;rw[AQH,AP6]
theorem FF (n:Nat):0<Wp n:=by
 induction n with
 | zero=>decide
 | succ n ih=>rw[DV];omega
theorem R5 (a b:Nat):Wp (a+b)=Wp a*Wp b:=by unfold Wp;rw[AQK]
theorem Gp (n:Nat):Wp n=2^(64*n):=by
 unfold Wp;rw[Int.pow_mul];rfl
theorem fF {a b:Nat} (h:a<=b):Wp a<=Wp b:=by rw[Gp,Gp];exact A7 (by omega)
theorem GI:Ws []:=λx h=>by simp at h
theorem Gq {x:Int} {l:List Int} :Ws (x::l)↔U x/\Ws l:=by unfold Ws;simp
theorem RU {a b:List Int} :Ws (a++b)↔Ws a/\Ws b:=by
 unfold Ws;simp only[AQM];exact⟨λh=>⟨λx hx=>h x (.inl hx),λx hx=>h x (.inr hx)⟩,λh x hx=>hx.elim (h.1 x) (h.2 x)⟩
theorem EM {l:List Int} (h:Ws l) (n:Nat):Ws (l.take n):=λx hx=>h x (AR2 hx)
theorem NI {l:List Int} (h:Ws l) (n:Nat):Ws (l.drop n):=λx hx=>h x (AR3 hx)
theorem JB {x:Int} (h:U x):Ws [x]:=λy hy=>by simp at hy;rw[hy];exact h
theorem W8 (n:Nat):Ws (List.replicate n 0):=λx hx=>by rw[AS8 hx];unfold U;omega
theorem Hl {l:List Int} (h:Ws l) (i:Int):U (rd l i):=by
 unfold rd;rw[APt];rcases AQS i.toNat l.length with hi | hi
 · rw[AP4 hi];exact h _ (AQ5 hi)
 · rw[AQO hi];unfold U;simp
theorem AN {l:List Int} (h:Ws l):0<=nv l:=by
 induction l with
 | nil=>exact ASp 0
 | cons x l ih =>
   have h1:=Gq.1 h;have h2:=ih h1.2;have h3:=h1.1.1;rw[Cb];omega
theorem K8 {l:List Int} (h:Ws l):nv l<Wp l.length:=by
 induction l with
 | nil=>decide
 | cons x l ih =>
   have h1:=Gq.1 h;have h2:=ih h1.2;have h3:=h1.1.2;rw[AQW,DV,Cb];omega
theorem fG (a b:List Int):nv (a++b)=nv a+Wp a.length*nv b:=by
 induction a with
 | nil=>simp[nv,NH]
 | cons x a ih =>
   rw[ASA,AQW,DV,Cb,Cb,ih]
   grind
theorem Jd (x:Int):nv [x]=x:=by rw[Cb];show x+18446744073709551616*0=x;omega
theorem IL (a:List Int) (x:Int):nv (a++ [x])=nv a+Wp a.length*x:=by rw[fG,Jd]
theorem R6 (n:Nat):nv (List.replicate n 0)=0:=by
 induction n with
 | zero=>rfl
 | succ n ih=>rw[List.replicate_succ,Cb,ih];rfl
theorem IM {l:List Int} {i:Nat} (h:i<l.length):l.take (i+1)=l.take i++ [rd l (i:Int)]:=by
 rw[ARi h];unfold rd;rw[APr,APt,AP4 h];rfl
theorem Bo {l:List Int} {i:Nat} (h:i<l.length):nv (l.take (i+1))=nv (l.take i)+Wp i*rd l (i:Int):=by
 rw[IM h,IL,APx,AQB (by omega)]
theorem W9 (l:List Int) (i:Nat):nv l=nv (l.take i)+Wp (min i l.length)*nv (l.drop i):=by
 have:=fG (l.take i) (l.drop i);rw[ARM,APx] at this;exact this
def dgF:Nat->Int->List Int
 | 0,_=> []
 | k+1,n=>if n<=0 then[] else n%18446744073709551616::dgF k (n/18446744073709551616)
def dg (n:Int):List Int:=dgF n.toNat n
theorem XA (k:Nat) {n:Int} (h:n<=0):dgF k n= []:=by
 cases k with
 | zero=>rfl
 | succ k=>unfold dgF;rw[if_pos h]
theorem AD5 : ∀(k j:Nat) (n:Int),n.toNat<=k->n.toNat<=j->dgF k n=dgF j n
 | 0,j,n,hk,_=>by rw[XA 0 (by omega),XA j (by omega)]
 | k+1,0,n,_,hj=>by rw[XA _ (by omega),XA 0 (by omega)]
 | k+1,j+1,n,hk,hj=>by
   unfold dgF;by_cases h:n<=0
   · rw[if_pos h,if_pos h]
   · rw[if_neg h,if_neg h,AD5 k j _ (by omega) (by omega)]
theorem eA {n:Int} (h:n<=0):dg n= []:=XA _ h
theorem Gj:dg 0= []:=rfl
theorem MI {n:Int} (h:0<n):dg n=n%18446744073709551616::dg (n/18446744073709551616):=by
 unfold dg;obtain⟨k,hk⟩ : ∃k,n.toNat=k+1:=⟨n.toNat-1,by omega⟩;rw[hk]
 conv=>lhs;unfold dgF
 rw[if_neg (by omega),AD5 k _ _ (by omega) (AP1 _)]
theorem xI {P:Int->Prop} (h0:P 0) (hs : ∀n,0<n->P (n/18446744073709551616)->P n) (n:Int) (hn:0<=n):P n:=by
 have key : ∀(k:Nat) (n:Int),0<=n->n.toNat<=k->P n:=by
  intro k;induction k with
  | zero=>intro n h1 h2;obtain rfl:n=0:=by omega
          exact h0
  | succ k ih =>
    intro n h1 h2;rcases(show n=0\/0<n by omega) with rfl | h
    · exact h0
    · exact hs n h (ih _ (by omega) (by omega))
 exact key _ n hn (AP1 _)
theorem Qm (n:Int):Ws (dg n):=by
 rcases AQf n 0 with h | h
 · rw[eA (by omega)];exact GI
 · refine xI (P:=λn=>Ws (dg n)) GI (λn hn ih=> ?_) n h
   rw[MI hn];exact Gq.2 ⟨by unfold U;omega,ih⟩
theorem AY {n:Int} (h:0<=n):nv (dg n)=n:=by
 refine xI (P:=λn=>nv (dg n)=n) rfl (λn hn ih=> ?_) n h;rw[MI hn,Cb,ih];omega
def Cn (l:List Int):Prop:=l= []\/l.getLast? ≠some 0
theorem ALc {n:Int} (h:0<=n):Cn (dg n):=by
 refine xI (P:=λn=>Cn (dg n)) (.inl rfl) (λn hn ih=> ?_) n h;rw[MI hn];refine .inr ?_;rcases ih with ih | ih
 · have h1:=AY (n:=n/18446744073709551616) (by omega)
   rw[ih] at h1 ⊢;unfold nv at h1;simp;omega
 · cases hd:dg (n/18446744073709551616) with
   | nil =>
     have h1:=AY (n:=n/18446744073709551616) (by omega);rw[hd] at h1;unfold nv at h1;simp;omega
   | cons y l =>
     rw[hd] at ih;rw[ATA];exact ih
theorem zw {x:Int} {l:List Int} (h:Cn (x::l)):Cn l:=by
 cases l with
 | nil=>exact .inl rfl
 | cons y l =>
   rcases h with h | h
   · cases h
   · rw[ATA] at h;exact .inr h
theorem AA3 {l:List Int} (h:Ws l) (hc:Cn l) (hne:l≠ []):0<nv l:=by
 induction l with
 | nil=>exact absurd rfl hne
 | cons x l ih =>
   have h1:=Gq.1 h;unfold U at h1;rw[Cb];cases l with
   | nil =>
     rcases hc with hc | hc
     · cases hc
     · simp at hc;show 0<x+18446744073709551616*0;omega
   | cons y l =>
     have:=ih h1.2 (zw hc) (by simp);omega
theorem ALd {l:List Int} (h:Ws l) (hc:Cn l):dg (nv l)=l:=by
 induction l with
 | nil=>rfl
 | cons x l ih =>
   have h0:=AA3 h hc (by simp);have h1:=Gq.1 h;have h2:=AN h1.2;unfold U at h1;have e:nv (x::l)=x+18446744073709551616*nv l:=rfl;rw[MI h0,e,show(x+18446744073709551616*nv l)%18446744073709551616=x by omega,show(x+18446744073709551616*nv l)/18446744073709551616=nv l by omega,ih h1.2 (zw hc)]
theorem nW {a b:Int} (ha:0<=a) (hb:0<=b) (h:dg a=dg b):a=b:=by rw[<-AY ha,h,AY hb]
theorem L8 {n:Int} {m:Nat} (h:n<Wp m):(dg n).length<=m:=by
 induction m generalizing n with
 | zero=>rw[eA (by rw[NH] at h;omega)];simp
 | succ m ih =>
   rcases AQf 0 n with h1 | h1
   · rw[MI h1,AQW]
     rw[DV] at h;have:= @ih (n/18446744073709551616) (by omega);omega
   · rw[eA h1];simp
theorem kO {n:Int} {m:Nat} (h:Wp m<=n):m<(dg n).length:=by
 have hp:=FF m;have h1:=K8 (Qm n);rw[AY (by omega)] at h1;rcases AQS m (dg n).length with h2 | h2
 · exact h2
 · have:=fF h2;omega
theorem YY {n:Int} (h:0<n):Wp ((dg n).length-1)<=n:=by
 rcases AQf n (Wp ((dg n).length-1)) with h1 | h1
 · have:=L8 h1
   have h2:(dg n).length≠0:=(by rw[MI h];simp);omega
 · exact h1
theorem Oj {n:Int} (h:0<=n):n<Wp (dg n).length:=by
 have h1:=K8 (Qm n)
 rwa [AY h] at h1
theorem B9 {x y:Int} (h:x<=y):bl x<=bl y:=by
 have h1:=HN y;have:=CA (x:=x) (n:=(bl y).toNat) (by omega);have:=CM y;omega
theorem YG {x y:Int} (hx:0<=x) (hy:0<=y) {m:Int} (h1:bl x<=m) (h2:bl y<=m):bl (x+y)<=m+1:=by
 have a1:=HN x;have a2:=HN y;have n1:=CM x;have n2:=CM y;obtain⟨k,rfl⟩:=AP0 (show 0<=m by omega);have b1:=A7 (a:=(bl x).toNat) (b:=k) (by omega);have b2:=A7 (a:=(bl y).toNat) (b:=k) (by omega);have:=CA (x:=x+y) (n:=k+1) (by rw[AQH];omega);omega
theorem Fo {x y:Int} (hx:0<=x) (hy:0<=y):bl (x*y)<=bl x+bl y:=by
 have a1:=HN x;have a2:=HN y;have n1:=CM x;have n2:=CM y;have p1:=pow_pos (bl x).toNat;have h:x*y<2^((bl x).toNat+(bl y).toNat):=by
  rw[AQK];rcases(show y=0\/0<y by omega) with rfl | h
  · rw[AQ1];exact AQ0 p1 (pow_pos _)
  · exact Int.mul_lt_mul a1 (by omega) h (by omega)
 have:=CA h;omega
theorem AQ (n:Int):((dg n).length:Int)<=(bl n+63)/64:=by
 have h1:=HN n;have n1:=CM n;obtain⟨k,hk⟩:=AP0 (show 0<=(bl n+63)/64 by omega);have h2:n<Wp k:=by
  rw[Gp];have:=A7 (a:=(bl n).toNat) (b:=64*k) (by omega);omega
 have:=L8 h2;omega
theorem BO {n:Int} (h:bl n<=60000000000):Wl (dg n):=⟨Qm n,by have:=AQ n;omega⟩
theorem E9 {l:List Int} (h:Ws l):bl (nv l)<=64*l.length:=by
 have h1:=K8 h;rw[Gp] at h1;have:=CA h1;omega
theorem Pm {a b c:Int} (ha:U a) (hb:U b) (hc:U c):Dn.f a b c=some ((a+b+c)%18446744073709551616,(a+b+c)/18446744073709551616):=by
 unfold U at ha hb hc;unfold Dn.f;simp only[wu];split<;>split<;>(simp only[ARz,ARo];omega)
theorem MM {a b c:Int} (ha:U a) (hb:U b) (hc:U c):Eg.f a b c=some ((a-b-c)%18446744073709551616,-((a-b-c)/18446744073709551616)):=by
 unfold U at ha hb hc;unfold Eg.f;simp only[wu];split<;>split<;>(simp only[ARz,ARo];omega)
theorem xJ (a b:Int):a*b=(a/4294967296)*(b/4294967296)*18446744073709551616+((a%4294967296)*(b/4294967296)+(a/4294967296)*(b%4294967296))*4294967296+(a%4294967296)*(b%4294967296):=by
 have h1:=AP9 a 4294967296;have h2:=AP9 b 4294967296;generalize a/4294967296=a1 at *;generalize b/4294967296=b1 at *;generalize a%4294967296=a0 at *;generalize b%4294967296=b0 at *;subst h1 h2
 grind
theorem IN {x y m n:Int} (hx0:0<=x) (hx:x<=m) (hy0:0<=y) (hy:y<=n):0<=x*y/\x*y<=m*n :=
 ⟨AP7 hx0 hy0,AST hx hy hy0 (by omega)⟩
theorem JD {a b:Int} (ha:U a) (hb:U b):DZ.f a b=some (a*b/18446744073709551616,a*b%18446744073709551616):=by
 unfold U at ha hb;unfold DZ.f;have e:=xJ a b;have k1:=IN (x:=a%4294967296) (y:=b%4294967296) (m:=4294967295) (n:=4294967295) (by omega) (by omega) (by omega) (by omega);have k2:=IN (x:=a%4294967296) (y:=b/4294967296) (m:=4294967295) (n:=4294967295) (by omega) (by omega) (by omega) (by omega);have k3:=IN (x:=a/4294967296) (y:=b%4294967296) (m:=4294967295) (n:=4294967295) (by omega) (by omega) (by omega) (by omega);have k4:=IN (x:=a/4294967296) (y:=b/4294967296) (m:=4294967295) (n:=4294967295) (by omega) (by omega) (by omega) (by omega);rw[UX a (by omega) (by omega),UX b (by omega) (by omega)];generalize a%4294967296*(b%4294967296)=p at *;generalize a%4294967296*(b/4294967296)=q at *;generalize a/4294967296*(b%4294967296)=r at *;generalize a/4294967296*(b/4294967296)=t at *;rw[e];clear e ha hb;simp only[Int.reduceMul] at *;simp only[wu];rw[UX _ (by omega) (by omega),UX _ (by omega) (by omega),F6 32 _ _ (by omega) (by omega) (by omega) (by omega) (by omega) (by omega)];simp only[ARz,ARo];omega
theorem AD6 (k:Nat) (x n:Int) (h0:0<=x) (h1:x<2) (hn0:0<=n) (hn1:n<=63):BF.l0 (k+1) x n 0=some (n+bl x):=by
 simp only[BF.l0];rw[if_neg (by omega),AE (n:=x) (by omega) (by omega),AE (by omega) (by omega)];rcases(show x=0\/x=1 by omega) with rfl | rfl
 · rfl
 · have:bl 1=1:=rfl
   rw[this]
theorem Ok (k s s':Nat) (hs:0<s) (hs2:s<=32) (hs':s'=s/2)
 (H : ∀x n:Int,0<=x->x<2^s->0<=n->n<=64-s->BF.l0 k x n s'=some (n+bl x))
 (x n:Int) (h0:0<=x) (h1:x<2^(2*s)) (hn0:0<=n) (hn1:n<=64-2*s):BF.l0 (k+1) x n s=some (n+bl x):=by
 have hp:=pow_pos s;have hd:((s:Nat):Int)/2=((s':Nat):Int):=by omega
 simp only[BF.l0];rw[if_pos (by omega),if_pos (by omega),Wd _ _ (by omega),APr,hd];by_cases hq:x/2^s>0
 · have hle:2^s<=x:=by
    rcases AQf x (2^s) with h | h
    · rw[AQV h0 h] at hq;omega
    · exact h
   rw[if_pos hq,AE (by omega) (by omega),H _ _ (by omega) ?_ (by omega) (by omega),Rg hle]
   · congr 1;omega
   · rw[AQL hp,<-AQK]
     rwa [show s+s=2*s by omega]
 · have hlt:x<2^s:=by
    rcases AQf x (2^s) with h | h
    · exact h
    · have:1<=x/2^s:=by rw[AQm hp];omega
      omega
   rw[if_neg hq,H _ _ h0 hlt hn0 (by omega)]
theorem Fp {x:Int} (h:U x):Ev (λk=>BF.f k x) (bl x):=by
 refine⟨7,λk hk=> ?_⟩;obtain⟨k,rfl⟩ : ∃m,k=m+1+1+1+1+1+1+1:=⟨k-7,by omega⟩;have s0 : ∀x n:Int,0<=x->x<2^1->0<=n->n<=64-((1:Nat):Int)->BF.l0 (k+1) x n ((0:Nat):Int)=some (n+bl x):=λx n a b c d=>AD6 k x n a (by omega) c (by omega)
 have s1:=Ok (k+1) 1 0 (by omega) (by omega) rfl s0;have s2:=Ok (k+1+1) 2 1 (by omega) (by omega) rfl (λx n a b c d=>s1 x n a b c (by omega));have s3:=Ok (k+1+1+1) 4 2 (by omega) (by omega) rfl (λx n a b c d=>s2 x n a b c (by omega));have s4:=Ok (k+1+1+1+1) 8 4 (by omega) (by omega) rfl (λx n a b c d=>s3 x n a b c (by omega));have s5:=Ok (k+1+1+1+1+1) 16 8 (by omega) (by omega) rfl (λx n a b c d=>s4 x n a b c (by omega));have s6:=Ok (k+1+1+1+1+1+1) 32 16 (by omega) (by omega) rfl (λx n a b c d=>s5 x n a b c (by omega));have:=s6 x 0 h.1 h.2 (by omega) (by omega);unfold BF.f;exact this.trans (by congr 1;omega)
theorem tG (m:Nat) : ∀x n:Int,0<=x->x.toNat<=m->bl x<=64->0<=n->n+bl x<=1000->Ev (λk=>Eh.l0 k x n) (n+bl x):=by
 induction m with
 | zero =>
   intro x n h0 h1 hb hn hn1;obtain rfl:x=0:=by omega
   refine Ev.step (λk=>Eh.l0.eq_2 ..) ?_;refine Ev.AO (by omega) ?_;exact Ev.same (by rw[Lo];congr 1;omega)
 | succ m ih =>
   intro x n h0 h1 hb hn hn1;refine Ev.step (λk=>Eh.l0.eq_2 ..) ?_;by_cases hx:x>0
   · refine Ev.AI hx ?_
     have e:bl x=bl (x/2)+1\/(x=1/\bl x=1):=by
      rcases(show x=1\/2<=x by omega) with h | h
      · exact .inr ⟨h,by rw[h];rfl⟩
      · exact .inl (Rg (s:=1) (by omega))
     have e2:bl x=bl (x/2)+1:=by
      rcases e with e | ⟨rfl,e⟩
      · exact e
      · rfl
     have hn2:=CM (x/2);rw[AE (by omega) (by omega)];refine(ih (x/2) (n+1) (by omega) (by omega) (by omega) (by omega) (by omega)).dc (by omega)
   · refine Ev.AO hx ?_
     obtain rfl:x=0:=by omega
     exact Ev.same (by rw[Lo];congr 1;omega)
theorem tH {x:Int} (h:U x):Ev (λk=>Eh.f k x) (bl x):=by
 have hb:=RY h.2;have:=tG x.toNat x 0 h.1 (AP1 _) hb (by omega) (by omega);exact this.dc (by omega)
theorem xK (rest next d d0 d1:Int) (hd:d=d1*4294967296+d0) (hd1:2147483648<=d1) (APe:d1<4294967296) (zD:0<=d0) (APf:d0<4294967296) (WN:0<=rest) (hr1:rest<d) (hn0:0<=next) (hn1:next<4294967296) (m:Nat) :
 ∀q r:Int,q.toNat<m->q*d1+r=rest->0<=r->r<4294967296->q<=4294967297->(rest*4294967296+next)/d<=q ->
  Ev (λk=>Bh.l0 k rest next d d0 d1 q r) ((rest*4294967296+next)/d,(rest*4294967296+next)%d):=by
 have hdp:0<d:=by omega
 have hN0:0<=(rest*4294967296+next)/d:=AQC (by omega) (by omega);have APg:(rest*4294967296+next)/d<4294967296:=by rw[AQL hdp];omega
 have hmod:=AQJ (rest*4294967296+next) (show d≠0 by omega);have APJ:=AQG (rest*4294967296+next) hdp;have hdm:=AP9 (rest*4294967296+next) d;have fin : ∀q:Int,q=(rest*4294967296+next)/d->IntKind.u64.wrap ((IntKind.u64.wrap ((IntKind.u64.wrap (rest*4294967296))+next))-(IntKind.u64.wrap (q*d)))=(rest*4294967296+next)%d:=by
  intro q hq;subst hq;generalize (rest*4294967296+next)/d=q at *;generalize (rest*4294967296+next)%d=r at *;have e:q*d=d*q:=AP6 _ _;rw[e];generalize d*q=p at *;simp only[wu];omega
 induction m with
 | zero=>intro q r hm;omega
 | succ m ih =>
   intro q r hm hq h0 h1 h2 h3;have hqn:0<=q:=(by omega);have hp:=IN (x:=q) (y:=d0) (m:=4294967297) (n:=4294967295) hqn h2 zD (by omega);have Mp:(q-1)*d0=q*d0-d0:=(by rw[ATJ,ARL]);have hs1:(q-1)*d1=q*d1-d1:=(by rw[ATJ,ARL]);have hqd:q*d=q*d1*4294967296+q*d0:=(by rw[hd,ART,<-AQT]);have AOp:(q-1)*d=q*d-d:=(by rw[ATJ,ARL]);have more:(rest*4294967296+next)/d<q->Ev (λk=>Bh.j1 k rest next d d0 d1 q r true) ((rest*4294967296+next)/d,(rest*4294967296+next)%d):=by
    intro hlt;refine Ev.step (λk=>Bh.j1.eq_2 ..) ?_;refine Ev.AI rfl ?_;have w1:IntKind.u64.wrap (r+d1)=r+d1:=DY (by omega) (by omega);have w2:IntKind.u64.wrap (q-1)=q-1:=DY (by omega) (by omega);rw[w1,w2];by_cases hb:r+d1>4294967295
    · refine Ev.AI hb ?_
      have hle:q-1<=(rest*4294967296+next)/d:=by
       rw[AQm hdp,AOp,hqd];have Mo:=IN (x:=q-1) (y:=d0) (m:=4294967296) (n:=4294967295) (by omega) (by omega) zD (by omega);generalize (q-1)*d0=p1 at *;generalize q*d0=p at *;generalize q*d1=s at *;omega
      have he:q-1=(rest*4294967296+next)/d:=(by omega);exact Ev.same (by rw[fin _ he,he])
    · refine Ev.AO hb ?_
      exact ih (q-1) (r+d1) (by omega) (by rw[hs1];omega) (by omega) (by omega) (by omega) (by omega)
   refine Ev.step (λk=>Bh.l0.eq_2 ..) ?_;by_cases hq1:q>4294967295
   · exact Ev.AI hq1 (more (by omega))
   · refine Ev.AO hq1 ?_
     have w1:IntKind.u64.wrap (q*d0)=q*d0:=by
      have hp3:=IN (x:=q) (y:=d0) (m:=4294967295) (n:=4294967295) hqn (by omega) zD (by omega);exact DY (by omega) (by omega)
     have w2:Go.bits .or .u64 (IntKind.u64.wrap (r*4294967296)) next=r*4294967296+next:=by
      rw[DY (by omega) (by omega)];exact F6 32 _ _ (by omega) (by omega) (by omega) (by omega) (by omega) (by omega)
     rw[w1,w2];by_cases hc:q*d0>r*4294967296+next
     · rw[decide_eq_true hc]
       refine more ?_;rw[AQL hdp,hqd];generalize q*d0=p at *;generalize q*d1=s at *;omega
     · rw[decide_eq_false hc]
       have hle:q<=(rest*4294967296+next)/d:=by
        rw[AQm hdp,hqd];generalize q*d0=p at *;generalize q*d1=s at *;omega
       have he:q=(rest*4294967296+next)/d:=(by omega);refine Ev.step (λk=>Bh.j1.eq_2 ..) ?_;refine Ev.AO (by decide) ?_;exact Ev.same (by rw[fin _ he,he])
theorem XB {rest next d:Int} (hd:9223372036854775808<=d) (hd':d<18446744073709551616) (WN:0<=rest) (hr1:rest<d) (hn0:0<=next) (hn1:next<4294967296) :
 Ev (λk=>Bh.f k rest next d) ((rest*4294967296+next)/d,(rest*4294967296+next)%d):=by
 have e1:=AP9 d 4294967296;have h1:2147483648<=d/4294967296:=by omega
 have h2:d/4294967296<4294967296:=by omega
 refine Ev.AO (by omega) ?_;rw[UX d (by omega) hd'];have hq0:=AQC WN (show 0<=d/4294967296 by omega);have m0:=AQJ rest (show d/4294967296≠0 by omega);have m1:=AQG rest (show 0<d/4294967296 by omega);have md:=AP9 rest (d/4294967296);rw[AQd WN,AQr WN];have AOq:rest/(d/4294967296)<=4294967297:=by
  have:rest/(d/4294967296)<4294967298:=by rw[AQL (by omega)];omega
  omega
 rw[DY hq0 (by omega)];refine xK rest next d (d%4294967296) (d/4294967296) (by omega) h1 h2 (by omega) (by omega) WN hr1 hn0 hn1 ((rest/(d/4294967296)).toNat+1) _ _ (by omega) (by rw[AP6];omega) m0 (by omega) AOq ?_
 have hlt:(rest*4294967296+next)/d<rest/(d/4294967296)+1:=by
  rw[AQL (by omega)];have e2:(rest/(d/4294967296)+1)*d=(d/4294967296*(rest/(d/4294967296))+d/4294967296)*4294967296+(rest/(d/4294967296)+1)*(d%4294967296):=by
   generalize rest/(d/4294967296)=q at *;generalize d/4294967296=d1 at *;generalize d%4294967296=d0 at *;subst e1
   grind
  have e3:0<=(rest/(d/4294967296)+1)*(d%4294967296):=AP7 (by omega) (by omega);rw[e2];generalize (rest/(d/4294967296)+1)*(d%4294967296)=z at *;generalize d/4294967296*(rest/(d/4294967296))=y at *;omega
 omega
theorem ACv {d:Int} (h0:0<d) (h1:d<18446744073709551616):9223372036854775808<=d*2^(64-bl d).toNat/\d*2^(64-bl d).toNat<18446744073709551616:=by
 have a1:=HN d;have a2:=Wj h0;have a3:=RY h1;have a4:=Ds h0;obtain⟨n,hn⟩ : ∃n:Nat,bl d=n+1:=⟨(bl d-1).toNat,by omega⟩;rw[hn] at a1 a2 a3 ⊢;have e1:((n:Int)+1).toNat=n+1:=by omega
 have e2:((n:Int)+1-1).toNat=n:=by omega
 have e3:(64-((n:Int)+1)).toNat=63-n:=by omega
 rw[e1] at a1;rw[e2] at a2;rw[e3];have hp:=pow_pos (63-n);have b1:=AP2 a2 (APs hp);have b2:=AQw a1 hp;rw[<-AQK,show n+(63-n)=63 by omega] at b1;rw[<-AQK,show n+1+(63-n)=64 by omega] at b2;omega
theorem VL {hi lo d:Int} (hhi:0<=hi) (hlt:hi<d) (hd:d<18446744073709551616) (hlo:U lo) :
 Ev (λk=>Hh.f k hi lo d) ((hi*18446744073709551616+lo)/d,(hi*18446744073709551616+lo)%d,true):=by
 obtain⟨AHt,AHu⟩:=hlo;refine Ev.AO (by omega) ?_;refine Ev.bind (Fp ⟨by omega,hd⟩) ?_;have b1:=Ds (x:=d) (by omega);have b2:=RY hd;have b3:=ACv (d:=d) (by omega) hd;have e64:wrap64 (64-bl d)=64-bl d:=AE (by omega) (by omega);have e63:wrap64 (63-(64-bl d))=bl d-1:=by rw[AE (by omega) (by omega)];omega
 rw[e64,e63];refine Ev.AI (by omega) (Ev.AI (by omega) ?_);obtain⟨s,hs⟩ : ∃s:Nat,64-bl d=s:=⟨(64-bl d).toNat,by omega⟩;have AIg:s<=63:=by omega
 have hs1:bl d-1=((63-s:Nat):Int):=by omega
 rw[hs] at b3 ⊢;rw[hs1];rw[APr] at b3;have hp:=pow_pos s;have Mo:=pow_pos (64-s);have eI:(2:Int)^s*2^(64-s)=18446744073709551616:=by rw[<-AQK,show s+(64-s)=64 by omega];rfl
 rw[Ld d _ (by omega),Ld hi _ (by omega),Ld lo _ (by omega),Wd _ _ (by omega),APr,APr];have hdm:d*2^s%18446744073709551616=d*2^s:=AQU (by omega) b3.2;have hh0:0<=hi*2^s:=AP7 hhi (by omega);have hh1:hi*2^s+2^s<=d*2^s:=by
  have:=AP2 (show hi+1<=d by omega) (APs hp);rw[ARY,ARL] at this;exact this
 have hhm:hi*2^s%18446744073709551616=hi*2^s:=AQU hh0 (by omega);have hl2:lo/2/2^(63-s)=lo/2^(64-s):=by
  rw[AQa (by omega),show(64-s)=(63-s)+1 by omega,AQH,AP6]
 have hl3:0<=lo/2^(64-s):=AQC AHt (by omega);have hl4:lo/2^(64-s)<2^s:=by rw[AQL Mo,eI];exact AHu
 have hl5:lo*2^s=lo/2^(64-s)*18446744073709551616+lo%2^(64-s)*2^s:=by
  have h:=AP9 lo (2^(64-s));generalize lo/2^(64-s)=q at *;generalize lo%2^(64-s)=r at *;rw[<-h,ARY,<-eI]
  grind
 have hl6:0<=lo%2^(64-s):=AQJ _ (by omega);have hl7:lo%2^(64-s)<2^(64-s):=AQG _ Mo;have hl8:lo%2^(64-s)*2^s<18446744073709551616:=by
  have:=AQw hl7 hp;rw[AP6 (2^(64-s)),eI] at this;exact this
 have hl9:0<=lo%2^(64-s)*2^s:=AP7 hl6 (by omega);have hlm:lo*2^s%18446744073709551616=lo%2^(64-s)*2^s:=by omega
 have hor:Go.bits .or .u64 (hi*2^s) (lo/2^(64-s))=hi*2^s+lo/2^(64-s) :=
  F6 s _ _ hh0 (AS6 _ _) (by omega) hl3 hl4 (by omega)
 rw[hdm,hhm,hl2,hor,hlm];have hN:(hi*18446744073709551616+lo)*2^s=(hi*2^s+lo/2^(64-s))*18446744073709551616+lo%2^(64-s)*2^s:=by
  have:(hi*18446744073709551616+lo)*2^s=hi*2^s*18446744073709551616+lo*2^s:=by grind
  rw[this,hl5]
  grind
 have hdiv:(hi*18446744073709551616+lo)/d=(hi*18446744073709551616+lo)*2^s/(d*2^s):=(ASi _ _ hp).symm;have hmod:(hi*18446744073709551616+lo)*2^s%(d*2^s)=(hi*18446744073709551616+lo)%d*2^s:=by
  rw[AP6 _ (2^s),AP6 d (2^s),ARZ _ _ hp,AP6]
 have hm1:=AQJ (hi*18446744073709551616+lo) (show d≠0 by omega);have hmm:(hi*18446744073709551616+lo)%d=(hi*18446744073709551616+lo)*2^s%(d*2^s)/2^s:=by rw[hmod,ASq _ (by omega)]
 rw[hdiv,hmm,hN];have hH:0<=hi*2^s+lo/2^(64-s):=by omega
 have hHD:hi*2^s+lo/2^(64-s)<d*2^s:=by omega
 generalize hi*2^s+lo/2^(64-s)=H at *;generalize lo%2^(64-s)*2^s=L at *;generalize d*2^s=D at *;refine Ev.bind (XB b3.1 b3.2 hH hHD (by omega) (by omega)) ?_;have r0:=AQJ (H*4294967296+L/4294967296) (show D≠0 by omega);have r1:=AQG (H*4294967296+L/4294967296) (show 0<D by omega);rw[UX L (by omega) hl8];refine Ev.bind (XB b3.1 b3.2 r0 r1 (by omega) (by omega)) ?_;have q10:0<=(H*4294967296+L/4294967296)/D:=AQC (by omega) (by omega);have q11:(H*4294967296+L/4294967296)/D<4294967296:=by rw[AQL (by omega)];omega
 have md:=AP9 (H*4294967296+L/4294967296) D;generalize (H*4294967296+L/4294967296)/D=q1 at *;generalize (H*4294967296+L/4294967296)%D=r at *;have hR:H*18446744073709551616+L=D*(q1*4294967296)+(r*4294967296+L%4294967296):=by
  have:D*(q1*4294967296)=D*q1*4294967296:=by rw[AQT]
  rw[this];generalize D*q1=z at *;omega
 have q00:0<=(r*4294967296+L%4294967296)/D:=AQC (by omega) (by omega);have q01:(r*4294967296+L%4294967296)/D<4294967296:=by rw[AQL (by omega)];omega
 have s0:=AQJ (r*4294967296+L%4294967296) (show D≠0 by omega);have s1:=AQG (r*4294967296+L%4294967296) (show 0<D by omega);have eD:(D*(q1*4294967296)+(r*4294967296+L%4294967296))/D=(r*4294967296+L%4294967296)/D+q1*4294967296:=by
  rw[ARa,AQj _ _ (by omega)]
 have eM:(D*(q1*4294967296)+(r*4294967296+L%4294967296))%D=(r*4294967296+L%4294967296)%D:=by
  rw[ARa,AQt]
 rw[hR,eD,eM];have hw:Go.bits .or .u64 (IntKind.u64.wrap (q1*4294967296)) ((r*4294967296+L%4294967296)/D)=(r*4294967296+L%4294967296)/D+q1*4294967296:=by
  rw[DY (by omega) (by omega),F6 32 _ _ (by omega) (by omega) (by omega) (by omega) (by omega) (by omega)];omega
 have hsh:shr .u64 ((r*4294967296+L%4294967296)%D) (s:Int)=(r*4294967296+L%4294967296)%D/2^s:=by rw[Wd _ _ (by omega),APr]
 exact Ev.same (by rw[hw,hsh])
theorem iw {b:Int} (hb:U b) (n:Nat):0<=b/2^n/\b/2^n<=b:=by
 have hp:=pow_pos n;exact⟨AQC hb.1 (by omega),AQv _ hb.1⟩
theorem AFs {l:List Int} {n:Nat} (h:n<l.length) (hr:rd l (n:Int)≠0):Cn (l.take (n+1)):=by
 rw[IM h];exact .inr (by rw[List.getLast?_append];simpa using hr)
theorem oV {l:List Int} (h:Ws l) {n:Nat} (hn:n<l.length) (hr:rd l (n:Int)≠0) (he:nv (l.take (n+1))=nv l):dg (nv l)=l.take (n+1):=by
 rw[<-he,ALd (EM h _) (AFs hn hr)]
theorem xL {l:List Int} (h:Wl l) (n:Nat):n<=l.length->nv (l.take n)=nv l->Ev (λk=>BZ.l0 k l n) ((dg (nv l)).length:Int):=by
 obtain⟨hw,hl⟩:=h;induction n with
 | zero =>
   intro hn he;refine Ev.step (λk=>BZ.l0.eq_2 ..) ?_;refine Ev.AO (by omega) (Ev.same ?_);rw[<-he];rfl
 | succ n ih =>
   intro hn he;have e:wrap64 (((n+1:Nat):Int)-1)=(n:Int):=(by rw[AE (by omega) (by omega)];omega);refine Ev.step (λk=>BZ.l0.eq_2 ..) ?_;refine Ev.AI (by omega) ?_;rw[e];refine Ev.AI (by omega) (Ev.AI (by omega) ?_);by_cases hr:rd l (n:Int)=0
   · refine Ev.AI hr (ih (by omega) ?_)
     rw[<-he,Bo (by omega),hr,AQ1,AQ2]
   · refine Ev.AO hr (Ev.same ?_)
     rw[oV hw (by omega) hr he,APx,AQB (by omega)]
theorem KO {l:List Int} (h:Wl l):Ev (λk=>BZ.f k l) ((dg (nv l)).length:Int) :=
 xL h l.length (AP1 _) (by rw[AQ3])
theorem YZ {l:List Int} (h:Ws l) : ∃r,l=dg (nv l)++r/\nv r=0:=by
 have key : ∀n,n<=l.length->nv (l.take n)=nv l->l.take (dg (nv l)).length=dg (nv l):=by
  intro n;induction n with
  | zero=>intro _ he;rw[<-he];rfl
  | succ n ih =>
    intro hn he;by_cases hr:rd l (n:Int)=0
    · refine ih (by omega) ?_
      rw[<-he,Bo (by omega),hr,AQ1,AQ2]
    · rw[oV h (by omega) hr he,APx,AQB (by omega)]
 have h1:=key l.length (AP1 _) (by rw[AQ3]);refine⟨l.drop (dg (nv l)).length, ?_, ?_⟩
 · conv=>rhs;lhs;rw[<-h1]
   rw[ARM]
 · have h2:=W9 l (dg (nv l)).length
   rw[h1,AY (AN h)] at h2;have h3:=FF (min (dg (nv l)).length l.length);have h4:Wp (min (dg (nv l)).length l.length)*nv (l.drop (dg (nv l)).length)=0:=(by omega);rcases ASn.1 h4 with h5 | h5
   · omega
   · exact h5
theorem Fh {l:List Int} (h:Ws l):(dg (nv l)).length<=l.length:=L8 (K8 h)
theorem oW {l:List Int} (h:Ws l):l.take (dg (nv l)).length=dg (nv l):=by
 obtain⟨r,hr,_⟩:=YZ h
 conv=>lhs;rhs;rw[hr]
 simp
theorem ALe {l:List Int} (h:Ws l) (i:Int):rd l i=rd (dg (nv l)) i:=by
 obtain⟨r,hr,hz⟩:=YZ h;have hrz : ∀(r:List Int),Ws r->nv r=0-> ∀j,r.getD j 0=0:=by
  intro r;induction r with
  | nil=>intro _ _ j;simp
  | cons x r ih =>
    intro hw h0 j;have h1:=Gq.1 hw;have h2:=AN h1.2;unfold U at h1;rw[Cb] at h0;cases j with
    | zero=>simp;omega
    | succ j=>simpa using ih h1.2 (by omega) j
 have hwr:Ws r:=(RU.1 (hr▸h)).2;unfold rd
 conv=>lhs;rw[hr]
 rw[APt,APt];rcases AQS i.toNat (dg (nv l)).length with hi | hi
 · rw[AQg hi]
 · rw[AQq hi,AQO hi,<-APt,hrz r hwr hz]
   rfl
theorem Cz {l:List Int} (h:Wl l):Ev (λk=>Ap.f k l) (dg (nv l)):=by
 obtain⟨hw,hl⟩:=h;have hd:=Fh hw;refine Ev.AZ rfl ?_;refine Ev.bind (KO ⟨hw,hl⟩) ?_;rw[APr,oW hw];refine Ev.AI (by omega) (Ev.AI (by omega) (Ev.AI (by rw[ARy];omega) ?_));exact Ev.same (by rw[ARk])
theorem OU {x:Int} (h:U x):Ev (λk=>Ig.f k x) (dg x):=by
 have:=Cz (l:= [x]) ⟨JB h,by simp⟩;rw[Jd] at this;exact Ev.bind this (Ev.same rfl)
theorem Ho {l:List Int} (h:Wl l):FP.f l=some (decide (dg (nv l)=l)):=by
 obtain⟨hw,hl⟩:=h;unfold FP.f;by_cases h0:(l.length:Int)=0
 · rw[if_pos h0]
   have:l= []:=AQc (by omega);subst this;rfl
 · have e:wrap64 ((l.length:Int)-1)=((l.length-1:Nat):Int):=by rw[AE (by omega) (by omega)];omega
   have hln:l.length-1+1=l.length:=(by omega);rw[if_neg h0,e,if_pos (by omega),if_pos (by omega)]
   congr 1
   by_cases hr:rd l ((l.length-1:Nat):Int)=0
   · rw[hr]
     have hne:dg (nv l)≠l:=by
      intro hd;have hc:=ALc (AN hw);rw[hd] at hc;have h1:=IM (l:=l) (i:=l.length-1) (by omega);rw[hln,AQ3,hr] at h1;rcases hc with hc | hc
      · rw[hc] at h0;exact h0 rfl
      · rw[h1] at hc;simp at hc
     simp[hne]
   · have:=oV hw (n:=l.length-1) (by omega) hr (by rw[hln,AQ3])
     rw[hln,AQ3] at this;simp[this,hr]
theorem AFt {n:Int} (h:U n):dg n=if n=0 then[] else[n]:=by
 unfold U at h;split
 · rename_i h0;rw[h0];rfl
 · rw[MI (by omega),show n/18446744073709551616=0 by omega,Gj,show n%18446744073709551616=n by omega]
theorem Cq {n:Int} (h:0<=n):(dg n).length=0↔n=0:=by
 constructor
 · intro h1
   have:=AY h;rw[AQc h1] at this;exact this.symm
 · intro h1;rw[h1];rfl
theorem VI {l:List Int} (h:Wl l):Ev (λk=>Iq.f k l) (if nv l<18446744073709551616 then(nv l,true) else(0,false)):=by
 obtain⟨hw,hl⟩:=h;have hn:=AN hw;refine Ev.bind (KO ⟨hw,hl⟩) ?_;by_cases h0:nv l=0
 · have h1:(dg (nv l)).length=0:=(Cq hn).2 h0
   refine Ev.AI (by omega) (Ev.same ?_);rw[h0,if_pos (by omega)]
 · have h1:(dg (nv l)).length≠0:=λh=>h0 ((Cq hn).1 h)
   refine Ev.AO (by omega) ?_;by_cases h2:nv l<18446744073709551616
   · have hd:=AFt (n:=nv l) ⟨hn,h2⟩
     rw[if_neg h0] at hd;rw[if_pos h2];refine Ev.AI (by rw[hd];rfl) (Ev.AI ?_ (Ev.same ?_))
     · have:=Fh hw;rw[hd] at this;simp at this;omega
     · rw[ALe hw,hd];rfl
   · rw[if_neg h2]
     refine Ev.AO ?_ (Ev.same rfl);have:=kO (n:=nv l) (m:=1) (by show(18446744073709551616:Int)^1<=_;omega);omega
def Gk (x y:Int):Int:=if x<y then -1 else if y<x then 1 else 0
theorem bV {x y:Int} (h:x<y):Gk x y= -1:=by unfold Gk;rw[if_pos h]
theorem oX {x y:Int} (h:y<x):Gk x y=1:=by unfold Gk;rw[if_neg (by omega),if_pos h]
theorem tI {x y:Int} :Gk x y<0↔x<y:=by unfold Gk;split<;>(try split)<;>omega
theorem zx {a b:List Int} (ha:Ws a) (hb:Ws b) {i:Nat} (h1:i<a.length) (h2:i<b.length) (hlt:rd a (i:Int)<rd b (i:Int)):nv (a.take (i+1))<nv (b.take (i+1)):=by
 rw[Bo h1,Bo h2];have c1:=K8 (EM ha i);have c2:=AN (EM hb i);rw[APx,AQB (by omega)] at c1;have c3:=FF i;have c4:=AQD (show rd a (i:Int)+1<=rd b (i:Int) by omega) (APs c3);rw[ART,AQQ] at c4;omega
theorem AA4 {a b:List Int} (ha:Wl a) (hb:Wl b) (n:Nat):n<=a.length->n<=b.length->Ev (λk=>Dl.l0 k a b ((n:Int)-1)) (Gk (nv (a.take n)) (nv (b.take n))):=by
 obtain⟨haw,hal⟩:=ha;obtain⟨hbw,hbl⟩:=hb;induction n with
 | zero =>
   intro _ _;refine Ev.step (λk=>Dl.l0.eq_2 ..) ?_;exact Ev.AO (by omega) (Ev.same rfl)
 | succ n ih =>
   intro h1 h2;have e:((n+1:Nat):Int)-1=(n:Int):=(by omega);rw[e];refine Ev.step (λk=>Dl.l0.eq_2 ..) ?_;refine Ev.AI (by omega) (Ev.AI (by omega) (Ev.AI (by omega) (Ev.AI (by omega) ?_)));by_cases c1:rd a (n:Int)<rd b (n:Int)
   · exact Ev.AI c1 (Ev.same (by rw[bV (zx haw hbw (by omega) (by omega) c1)]))
   · refine Ev.AO c1 ?_
     by_cases c2:rd a (n:Int)>rd b (n:Int)
     · exact Ev.AI c2 (Ev.same (by rw[oX (zx hbw haw (by omega) (by omega) c2)]))
     · refine Ev.AO c2 ?_
       rw[AE (by omega) (by omega)];have e2:rd a (n:Int)=rd b (n:Int):=(by omega);refine(ih (by omega) (by omega)).dc ?_;rw[Bo (by omega),Bo (by omega),e2];unfold Gk;split<;>split<;>first | omega | (split<;>first | omega | (split<;>omega))
theorem VT {l:List Int} (h:Ws l):nv (l.take (dg (nv l)).length)=nv l:=by rw[oW h,AY (AN h)]
theorem kP {x y:Int} (hx:0<=x) (hy:0<=y) (h:(dg x).length<(dg y).length):x<y:=by
 have h1:=Oj hx;have h2:=YY (n:=y) (by
  rcases(show y=0\/0<y by omega) with h0 | h0
  · rw[h0,Gj] at h;simp at h
  · exact h0)
 have:=fF (show(dg x).length<=(dg y).length-1 by omega);omega
theorem Ol {a b:List Int} (ha:Wl a) (hb:Wl b):Ev (λk=>Dl.f k a b) (Gk (nv a) (nv b)):=by
 have hla:=Fh ha.1;have hlb:=Fh hb.1;refine Ev.bind (KO ha) (Ev.bind (KO hb) ?_);by_cases h:(dg (nv a)).length=(dg (nv b)).length
 · refine Ev.AI (by omega) ?_
   have hl:=ha.2;rw[AE (by omega) (by omega)];refine(AA4 ha hb (dg (nv a)).length hla (by omega)).dc ?_;rw[VT ha.1]
   conv=>lhs;rhs;rw[h]
   rw[VT hb.1]
 · refine Ev.AO (by omega) ?_
   rcases AQS (dg (nv a)).length (dg (nv b)).length with h1 | h1
   · exact Ev.AI (by omega) (Ev.same (by rw[bV (kP (AN ha.1) (AN hb.1) h1)]))
   · exact Ev.AO (by omega) (Ev.same (by rw[oX (kP (AN hb.1) (AN ha.1) (by omega))]))
theorem I7 {b:List Int} {i:Nat} (h:b.length<=i):b.take (i+1)=b.take i:=by rw[AP5 (by omega),AP5 (by omega)]
theorem Ki {a:List Int} {x:Int} (ha:Ws a) (hx:U x):Ws (a++ [x]):=RU.2 ⟨ha,JB hx⟩
theorem tJ {out:List Int} {over:Int} (h:Wl (out++ [over])) (hl:out.length<=999999999):Ev (λk=>if out.length<17592186044416 then((Ap.f k (out++ [over])).bind λt183=>(some t183)) else(none)) (dg (nv out+Wp out.length*over)):=by
 refine Ev.AI (by omega) ?_;rw[<-IL];exact Ev.bind (Cz h) (Ev.same rfl)
theorem fI {a b:List Int} (ha:Wl a) (hb:Wl b) (hlb:b.length<=a.length) (hla:a.length<=999999999) (d:Nat) : ∀(i:Nat) (out:List Int) (over:Int),i+d=a.length->out.length=i->Ws out->0<=over->over<=1->nv out+Wp i*over=nv (a.take i)+nv (b.take i) ->
 Ev (λk=>BQ.l0 k b out over a (a.length:Int) i) (dg (nv a+nv b)):=by
 induction d with
 | zero =>
   intro i out over hi hlo O8 h0 h1 he;refine Ev.step (λk=>BQ.l0.eq_2 ..) ?_;refine Ev.AO (by omega) ?_;rw[AP5 (by omega),AP5 (by omega)] at he;rw[<-he,<-hlo];exact tJ ⟨Ki O8 (by unfold U;omega),by simp;omega⟩ (by omega)
 | succ d ih =>
   intro i out over hi hlo O8 h0 h1 he;have hx:=Hl ha.1 (i:Int);refine Ev.step (λk=>BQ.l0.eq_2 ..) ?_;refine Ev.AI (by omega) (Ev.AI (by omega) (Ev.AI (by omega) ?_));have fin : ∀y:Int,U y->nv (b.take (i+1))=nv (b.take i)+Wp i*y->Ev (λk=>(Dn.f (rd a (i:Int)) y over).bind λtK=>(if out.length<17592186044416 then(BQ.l0 k b (out++ [tK.1]) tK.2 a (a.length:Int) (wrap64 ((i:Int)+1))) else(none))) (dg (nv a+nv b)):=by
    intro y hy hby;refine Ev.AZ (Pm hx hy (by unfold U;omega)) ?_;dsimp only;refine Ev.AI (by omega) ?_;have e:wrap64 ((i:Int)+1)=((i+1:Nat):Int):=(by rw[AE (by omega) (by omega)];omega);rw[e];unfold U at hx hy;refine ih (i+1) _ _ (by omega) (by simp;omega) (Ki O8 (by unfold U;omega)) (by omega) (by omega) ?_;rw[IL,hlo,Bo (l:=a) (by omega),hby,DV];have hs:(rd a (i:Int)+y+over)=18446744073709551616*((rd a (i:Int)+y+over)/18446744073709551616)+(rd a (i:Int)+y+over)%18446744073709551616:=by omega
    generalize (rd a (i:Int)+y+over)/18446744073709551616=q at *;generalize (rd a (i:Int)+y+over)%18446744073709551616=r at *;generalize rd a (i:Int)=x at *;have:over=18446744073709551616*q+r-x-y:=(by omega);rw[this] at he
    grind
   by_cases hib:(i:Int)<(b.length:Int)
   · exact Ev.AI hib (fin _ (Hl hb.1 _) (Bo (by omega)))
   · refine Ev.AO hib (fin 0 (by unfold U;omega) ?_)
     rw[I7 (by omega),AQ1,AQ2]
theorem tL (a b out:List Int) : ∀(k:Nat) (over len i:Int),BQ.l1 k b out over a len i=BQ.l0 k b out over a len i:=by
 intro k;induction k generalizing out with
 | zero=>intros;rfl
 | succ k ih=>intros;simp only[BQ.l0,BQ.l1,ih]
theorem YN {a b:List Int} (ha:Wl a) (hb:Wl b) (hla:a.length<=999999999) (hlb:b.length<=999999999):Ev (λk=>BQ.f k a b) (dg (nv a+nv b)):=by
 by_cases h:(a.length:Int)<(b.length:Int)
 · refine Ev.AI h ?_
   rw[AE (by omega) (by omega)];refine Ev.AI (by omega) (Ev.AI (by omega) ?_);rw[ARa];exact fI hb ha (by omega) hlb b.length 0 [] 0 (by omega) rfl GI (by omega) (by omega) rfl
 · refine Ev.AO h ?_
   rw[AE (by omega) (by omega)];refine Ev.AI (by omega) (Ev.AI (by omega) ?_);exact Ev.congr (λk=>tL ..) (fI ha hb (by omega) hla a.length 0 [] 0 (by omega) rfl GI (by omega) (by omega) rfl)
theorem xM {a b:List Int} (ha:Wl a) (hb:Wl b) (hge:nv b<=nv a) (d:Nat) : ∀(i:Nat) (out:List Int) (under:Int),i+d=a.length->out.length=i->Ws out->0<=under->under<=1->nv out-Wp i*under=nv (a.take i)-nv (b.take i) ->
 Ev (λk=>DU.l0 k b out under a (a.length:Int) i) (dg (nv a-nv b),true):=by
 have hal:=ha.2;induction d with
 | zero =>
   intro i out under hi hlo O8 h0 h1 he;refine Ev.step (λk=>DU.l0.eq_2 ..) ?_;refine Ev.AO (by omega) ?_;have hi2:i=a.length:=(by omega);subst hi2;rw[AQ3] at he;have qB:=W9 b a.length;have hn1:=AN O8;have hn2:=K8 O8;rw[hlo] at hn2;have hn3:=AN (EM hb.1 a.length);have hn4:=AN (NI hb.1 a.length);have hn5:=K8 ha.1;have hp:=FF a.length;have hz:Wp (min a.length b.length)*nv (b.drop a.length)=0:=by
    rcases AQS a.length b.length with hlt | hgt
    · rw[AQB (by omega)] at qB ⊢
      rcases(show nv (b.drop a.length)=0\/1<=nv (b.drop a.length) by omega) with h | h
      · rw[h,AQ1]
      · have:=AQD h (APs hp)
        omega
    · rw[AQN hgt];simp[nv]
   have hu:under=0:=by
    rcases(show under=0\/under=1 by omega) with h | h
    · exact h
    · subst h;omega
   subst hu;have e:nv a-nv b=nv out:=(by omega);rw[e];exact Ev.bind (Cz ⟨O8,by omega⟩) (Ev.same rfl)
 | succ d ih =>
   intro i out under hi hlo O8 h0 h1 he;have hx:=Hl ha.1 (i:Int);refine Ev.step (λk=>DU.l0.eq_2 ..) ?_;refine Ev.AI (by omega) (Ev.AI (by omega) (Ev.AI (by omega) ?_));have fin : ∀y:Int,U y->nv (b.take (i+1))=nv (b.take i)+Wp i*y->Ev (λk=>(Eg.f (rd a (i:Int)) y under).bind λtK=>(if out.length<17592186044416 then(DU.l0 k b (out++ [tK.1]) tK.2 a (a.length:Int) (wrap64 ((i:Int)+1))) else(none))) (dg (nv a-nv b),true):=by
    intro y hy hby;refine Ev.AZ (MM hx hy (by unfold U;omega)) ?_;dsimp only;refine Ev.AI (by omega) ?_;have e:wrap64 ((i:Int)+1)=((i+1:Nat):Int):=(by rw[AE (by omega) (by omega)];omega);rw[e];have hna:=Bo (l:=a) (i:=i) (by omega);unfold U at hx hy;have hs:(rd a (i:Int)-y-under)=18446744073709551616*((rd a (i:Int)-y-under)/18446744073709551616)+(rd a (i:Int)-y-under)%18446744073709551616:=by omega
    have WN:0<=(rd a (i:Int)-y-under)%18446744073709551616:=(by omega);have hr1:(rd a (i:Int)-y-under)%18446744073709551616<18446744073709551616:=(by omega);have hq0:0<= -((rd a (i:Int)-y-under)/18446744073709551616):=(by omega);have hq1 : -((rd a (i:Int)-y-under)/18446744073709551616)<=1:=(by omega);generalize (rd a (i:Int)-y-under)/18446744073709551616=q at *;generalize (rd a (i:Int)-y-under)%18446744073709551616=r at *;generalize rd a (i:Int)=x at *;have hl1:(out++ [r]).length=i+1:=(by rw[AP3,hlo];rfl);refine ih (i+1) (out++ [r]) (-q) (by omega) hl1 (Ki O8 ⟨WN,hr1⟩) hq0 hq1 ?_;rw[IL,hlo,hna,hby,DV];have:under=x-y-18446744073709551616*q-r:=(by omega);rw[this] at he
    grind
   by_cases hib:(i:Int)<(b.length:Int)
   · exact Ev.AI hib (fin _ (Hl hb.1 _) (Bo (by omega)))
   · refine Ev.AO hib (fin 0 (by unfold U;omega) ?_)
     rw[I7 (by omega),AQ1,AQ2]
theorem Ya {a b:List Int} (ha:Wl a) (hb:Wl b) (hge:nv b<=nv a):Ev (λk=>DU.f k a b) (dg (nv a-nv b),true):=by
 have hal:=ha.2;refine Ev.bind (Ol ha hb) ?_;refine Ev.AO (by rw[tI];omega) (Ev.AI (by omega) (Ev.AI (by omega) ?_));exact xM ha hb hge a.length 0 [] 0 (by omega) rfl GI (by omega) (by omega) rfl
theorem xN {a b:List Int} (ha:Wl a) (hb:Wl b) (hlt:nv a<nv b):Ev (λk=>DU.f k a b) ([],false):=by
 refine Ev.bind (Ol ha hb) ?_;exact Ev.AI (by rw[tI];omega) (Ev.same rfl)
structure Hd (p:Prop):Prop where mk::(out:p)
theorem ZI {i m:Nat} (h:m<=i):i+1-m=i-m+1:=by omega
def sD (n:Int):Nat:=(mn (mx n 0) 65536).toNat
theorem AD7 (n:Int):sD n<=65536:=by unfold sD mn;split<;>omega
theorem VJ {n:Int} (h0:0<=n) (h1:n<=65536):sD n=n.toNat:=by unfold sD mn mx;split<;>split<;>omega
theorem xO (n:Int):mn (mx n 0) 65536=(sD n:Int):=by unfold sD mn mx;split<;>split<;>omega
theorem mul_mod_left (x y:Int):x%18446744073709551616*y%18446744073709551616=x*y%18446744073709551616:=by
 rw[Int.mul_emod,Int.emod_emod_of_dvd _ (Int.dvd_refl _),<-Int.mul_emod]
theorem bZ {b:Nat} (h:b<=64):(2:Int)^(64-b)*2^b=18446744073709551616:=by
 rw[<-AQK,show 64-b+b=64 by omega];rfl
theorem nG (z:Int) {b:Nat} (h:b<=64):z*2^(64-b)%18446744073709551616=2^(64-b)*(z%2^b):=by
 rw[<-bZ h,AP6 z,ARZ _ _ (pow_pos _)]
theorem zL (z:Int) {b:Nat} (h:b<=64):z*2^b%18446744073709551616=2^b*(z%2^(64-b)):=by
 have:=nG z (b:=64-b) (by omega)
 rwa [show 64-(64-b)=b by omega] at this
theorem tM (x:Int) {b:Nat} (h:b<=63):x/2/2^(63-b)=x/2^(64-b):=by
 rw[AQa (by omega),show 64-b=(63-b)+1 by omega,AQH,AP6]
theorem fJ {x c:Int} (hx:U x) {b:Nat} (hb:b<=63) (hc0:0<=c) (hc1:c<2^b) :
 Go.bits .or .u64 (IntKind.u64.wrap (x*2^b)) c=x*2^b%18446744073709551616+c/\x*2^b=x/2^(64-b)*18446744073709551616+x*2^b%18446744073709551616/\0<=x/2^(64-b)/\x/2^(64-b)<2^b/\U (x*2^b%18446744073709551616+c):=by
 obtain⟨hx0,hx1⟩:=hx;have hp:=pow_pos b;have Mo:=pow_pos (64-b);have eI:=bZ (b:=b) (by omega);have AOr:(2:Int)^b<=2^63:=A7 hb;have e1:=zL x (b:=b) (by omega);have m0:=AQJ x (show(2:Int)^(64-b)≠0 by omega);have m1:=AQG x Mo;have hdm:=AP9 x (2^(64-b));have q0:=AQC hx0 (show(0:Int)<=2^(64-b) by omega);have q1:x/2^(64-b)<2^b:=by rw[AQL Mo,AP6,eI];exact hx1
 have hle:2^b*(x%2^(64-b))+2^b<=18446744073709551616:=by
  rw[<-eI,AP6 (2^(64-b))];have:=AQD (show x%2^(64-b)+1<=2^(64-b) by omega) (APs hp);rw[ART,AQQ] at this;exact this
 have hnn:0<=2^b*(x%2^(64-b)):=AP7 (by omega) m0;refine⟨?_, ?_,q0,q1, ?_⟩
 · rw[wu,e1,F6 b _ _ hnn (ARI _ _) (by omega) hc0 hc1 (by omega)]
 · rw[e1,<-eI]
   generalize x/2^(64-b)=q at *;generalize x%2^(64-b)=r at *;generalize (2:Int)^(64-b)=P at *;generalize (2:Int)^b=Q at *;rw[<-hdm]
   grind
 · rw[e1];unfold U;omega
theorem AA5 {a:List Int} (ha:Wl a) {b m:Nat} (hb:b<=63) (hm:m<=100000) (hla:a.length<=900000000) (d:Nat) : ∀(i:Nat) (out:List Int) (c:Int),i+d=a.length->out.length=m+i->Ws out->0<=c->c<2^b->nv out+Wp (m+i)*c=Wp m*(nv (a.take i)*2^b) ->
 Ev (λk=>B0.l0 k (b:Int) out c a (a.length:Int) i) (dg (Wp m*(nv a*2^b))):=by
 have AOr:(2:Int)^b<=2^63:=A7 hb;induction d with
 | zero =>
   intro i out c hi hlo O8 h0 h1 he;refine Ev.step (λk=>B0.l0.eq_2 ..) ?_;refine Ev.AO (by omega) (Ev.AI (by omega) ?_);rw[AP5 (by omega)] at he;rw[<-he,<-hlo,<-IL];exact Ev.bind (Cz ⟨Ki O8 (by unfold U;omega),by simp;omega⟩) (Ev.same rfl)
 | succ d ih =>
   intro i out c hi hlo O8 h0 h1 he;have hx:=Hl ha.1 (i:Int);obtain⟨w1,w2,w3,w4,w5⟩:=fJ hx hb h0 h1;refine Ev.step (λk=>B0.l0.eq_2 ..) ?_;refine Ev.AI (by omega) (Ev.AI (by omega) (Ev.AI (by omega) (Ev.AI (by omega) ?_)));have e:wrap64 ((i:Int)+1)=((i+1:Nat):Int):=(by rw[AE (by omega) (by omega)];omega);have e63:(63-(b:Int)).toNat=63-b:=(by omega);rw[e,APr,e63,w1,tM _ hb];refine ih (i+1) _ _ (by omega) (by rw[AP3,hlo];rfl) (Ki O8 w5) w3 w4 ?_;rw[IL,hlo,Bo (by omega),show m+(i+1)=m+i+1 by omega,DV];have hwa:=R5 m i;generalize rd a (i:Int)/2^(64-b)=q at *;generalize rd a (i:Int)*2^b%18446744073709551616=r at *;rw[ARY,ART (Wp m),<-he];have:Wp i*rd a (i:Int)*2^b=Wp i*(q*18446744073709551616+r):=(by rw[AQT,w2]);rw[this,hwa]
   grind
theorem TO {a:List Int} (ha:Wl a) (hla:a.length<=900000000) (n:Int):Ev (λk=>B0.f k a n) (dg (nv a*2^sD n)):=by
 have hs:=AD7 n;obtain⟨b,m,hb,hm,hbm⟩ : ∃b m:Nat,b<=63/\m<=1024/\sD n=64*m+b:=⟨sD n%64,sD n/64,by omega,by omega,by omega⟩;have e1:mn (mx n 0) 65536/64=(m:Int):=by rw[xO];omega
 have e2:mn (mx n 0) 65536%64=(b:Int):=by rw[xO];omega
 unfold B0.f;rw[e1,e2];have e3:wrap64 (wrap64 ((m:Int)+(a.length:Int))+1)=(m:Int)+(a.length:Int)+1:=by
  rw[AE (n:=(m:Int)+(a.length:Int)) (by omega) (by omega),AE (by omega) (by omega)]
 rw[e3];refine Ev.AI (by omega) (Ev.AI (by omega) (Ev.AI (by omega) ?_));rw[APr];refine(AA5 (m:=m) ha hb (by omega) hla a.length 0 (List.replicate m 0) 0 (by omega) (by simp) (W8 _) (by omega) (pow_pos b) ?_).dc ?_
 · rw[R6];simp[nv]
 · rw[hbm,AQK,<-Gp]
   congr 1
   grind
theorem fK {y z T:Int} (hy:U y) (hz:U z) {b:Nat} (hb:b<=63) (hT : ∃t,T=z+18446744073709551616*t) :
 Go.bits .or .u64 (y/2^b) (IntKind.u64.wrap (IntKind.u64.wrap (z*2)*2^(63-b)))=y/2^b+2^(64-b)*(z%2^b)/\U (y/2^b+2^(64-b)*(z%2^b))/\(y+18446744073709551616*T)/2^b=y/2^b+2^(64-b)*(z%2^b)+18446744073709551616*(T/2^b):=by
 obtain⟨hy0,hy1⟩:=hy;obtain⟨uk,hz1⟩:=hz;have hp:=pow_pos b;have Mo:=pow_pos (64-b);have eI:=bZ (b:=b) (by omega);have m0:=AQJ z (show(2:Int)^b≠0 by omega);have m1:=AQG z hp;have q0:=AQC hy0 (show(0:Int)<=2^b by omega);have q1:y/2^b<2^(64-b):=by rw[AQL hp,eI];exact hy1
 have hle:2^(64-b)*(z%2^b)+2^(64-b)<=18446744073709551616:=by
  rw[<-eI];have:=AQD (show z%2^b+1<=2^b by omega) (APs Mo);rw[ART,AQQ] at this;exact this
 have hnn:0<=2^(64-b)*(z%2^b):=AP7 (by omega) m0;have hsh:IntKind.u64.wrap (IntKind.u64.wrap (z*2)*2^(63-b))=2^(64-b)*(z%2^b):=by
  rw[wu,wu,mul_mod_left,<-nG z (b:=b) (by omega),AQT,show(2:Int)*2^(63-b)=2^(64-b) by rw[show 64-b=(63-b)+1 by omega,AQH,AP6]]
 refine⟨?_,by unfold U;omega, ?_⟩
 · rw[hsh,or_comm _ _ q0 (by omega) hnn (by omega),F6 (64-b) _ _ hnn (ARI _ _) (by omega) q0 q1 (by omega)]
   omega
 · obtain⟨t,ht⟩:=hT
   have hTm:T%2^b=z%2^b:=by
    rw[ht,<-eI,show z+2^(64-b)*2^b*t=z+2^b*(2^(64-b)*t) by grind,AQt]
   have hTd:=AP9 T (2^b);have e:y+18446744073709551616*T=y+2^b*(2^(64-b)*T):=(by rw[<-eI];grind);rw[e,AQj _ _ (by omega)]
   conv=>lhs;rhs;rw[<-hTd,hTm]
   rw[<-eI]
   grind
theorem kQ {y T:Int} (hy:U y) {b:Nat} (hb:b<=63) (hT:T=0):Go.bits .or .u64 (y/2^b) 0=y/2^b/\U (y/2^b)/\(y+18446744073709551616*T)/2^b=y/2^b+18446744073709551616*(T/2^b):=by
 have h:=fK (T:=0) hy (z:=0) (by unfold U;omega) hb ⟨0,by omega⟩;simp only[ARD,Int.zero_emod,AQ1,AQ2,ATB] at h;subst hT;refine⟨?_,h.2.1,by simp⟩;have h1:=h.1;rw[wu,wu] at h1;simpa using h1
theorem I8 {l:List Int} {i:Nat} (h:i<l.length):l.drop i=rd l (i:Int)::l.drop (i+1):=by
 rw[AR7 h];unfold rd;rw[APr,APt,AP4 h];rfl
theorem AA6 {a:List Int} (ha:Wl a) {b m:Nat} (hb:b<=63) (d:Nat) : ∀(i:Nat) (out:List Int),i+d=a.length->m<=i->out.length=i-m->Ws out->nv out+Wp (i-m)*(nv (a.drop i)/2^b)=nv (a.drop m)/2^b ->
 Ev (λk=>D8.l0 k a (b:Int) out i) (dg (nv (a.drop m)/2^b)):=by
 have hal:=ha.2;induction d with
 | zero =>
   intro i out hi hmi hlo O8 he;refine Ev.step (λk=>D8.l0.eq_2 ..) ?_;refine Ev.AO (by omega) ?_;rw[AQN (show a.length<=i by omega)] at he;simp[nv] at he;rw[<-he];exact Ev.bind (Cz ⟨O8,by omega⟩) (Ev.same rfl)
 | succ d ih =>
   intro i out hi hmi hlo O8 he;have hx:=Hl ha.1 (i:Int);rw[I8 (by omega),Cb] at he;have HE:=Hd.mk he;clear he;have hsub:=ZI hmi;have e:wrap64 ((i:Int)+1)=((i+1:Nat):Int):=(by rw[AE (by omega) (by omega)];omega);have e63:(63-(b:Int)).toNat=63-b:=(by omega);refine Ev.step (λk=>D8.l0.eq_2 ..) ?_;refine Ev.AI (by omega) ?_;rw[e,APr,e63];by_cases hn:((i+1:Nat):Int)<(a.length:Int)
   · refine Ev.AI hn (Ev.AI (by omega) (Ev.AI (by omega) (Ev.AI (by omega) ?_)))
     obtain⟨w1,w2,w3'⟩:=fK (T:=nv (a.drop (i+1))) hx (Hl ha.1 ((i+1:Nat):Int)) hb ⟨nv (a.drop (i+1+1)),by rw[I8 (show i+1<a.length by omega),Cb]⟩;have W3:=Hd.mk w3';clear w3';rw[w1];refine ih (i+1) _ (by omega) (by omega) (by rw[AP3,hlo,hsub];rfl) (Ki O8 w2) ?_;have he:=HE.out;rw[W3.out] at he;rw[IL,hlo,hsub,DV,<-he]
     grind
   · refine Ev.AO hn (Ev.AI (by omega) (Ev.AI (by omega) ?_))
     have hz:nv (a.drop (i+1))=0:=(by rw[AQN (by omega)];rfl);obtain⟨w1,w2,w3'⟩:=kQ hx hb hz;have W3:=Hd.mk w3';clear w3';rw[w1];refine ih (i+1) _ (by omega) (by omega) (by rw[AP3,hlo,hsub];rfl) (Ki O8 w2) ?_;have he:=HE.out;rw[W3.out] at he;rw[IL,hlo,hsub,DV,<-he]
     grind
theorem Om {a:List Int} (ha:Ws a) (m:Nat):nv a/Wp m=nv (a.drop m):=by
 have h1:=W9 a m;have h2:=K8 (EM ha m);have h3:=AN (EM ha m);have h4:=FF m;rw[APx] at h2;rcases AQS m a.length with h | h
 · rw[AQB (by omega)] at h1 h2
   rw[h1,AQj _ _ (by omega),AQV h3 h2,ASZ]
 · have h5:=K8 ha
   have h6:=fF h;rw[AQN h,AQV (AN ha) (by omega)];rfl
theorem kC {a:List Int} (ha:Wl a) {n:Int} (hn:n<=9223372036854775807):Ev (λk=>D8.f k a n) (dg (nv a/2^n.toNat)):=by
 have hal:=ha.2;have hmx:mx n 0=(n.toNat:Int):=by unfold mx;split<;>omega
 obtain⟨b,m,hb,hbm⟩ : ∃b m:Nat,b<=63/\n.toNat=64*m+b:=⟨n.toNat%64,n.toNat/64,by omega,by omega⟩;have e1:wrap64 ((n.toNat:Int)/64)=(m:Int):=by rw[AE (by omega) (by omega)];omega
 have e2:(n.toNat:Int)%64=(b:Int):=by omega
 have hdiv:nv a/2^n.toNat=nv (a.drop m)/2^b:=by
  have hp:=FF m;rw[hbm,AQK,<-Gp,<-AQa (by omega),Om ha.1]
 unfold D8.f;rw[hmx,e1,e2,hdiv];by_cases h:(m:Int)>=(a.length:Int)
 · refine Ev.AI h (Ev.same ?_)
   rw[AQN (by omega)];simp[nv,Gj]
 · refine Ev.AO h ?_
   rw[AE (by omega) (by omega)];refine Ev.AI (by omega) (Ev.AI (by omega) ?_);refine AA6 ha hb (a.length-m) m [] (by omega) (by omega) (by simp) GI ?_;simp[nv,NH]
theorem ZJ {l:List Int} (h:Ws l) {n:Nat} (hn:(dg (nv l)).length=n+1):bl (nv l)=64*n+bl (rd l (n:Int))/\0<rd l (n:Int):=by
 have h0:=AN h;have hle:=Fh h;have h1:=VT h;rw[hn,Bo (by omega)] at h1;have h2:=K8 (EM h n);have h3:=AN (EM h n);rw[APx,AQB (by omega)] at h2;have hp:=FF n;have hpos:0<nv l:=by
  rcases(show nv l=0\/0<nv l by omega) with h4 | h4
  · rw[h4] at hn;simp[Gj] at hn
  · exact h4
 have h5:=YY hpos;rw[hn] at h5;have hu:=Hl h (n:Int);have hr:1<=rd l (n:Int):=by
  rcases(show rd l (n:Int)<=0\/1<=rd l (n:Int) by omega) with h6 | h6
  · have:Wp n*rd l (n:Int)<=0:=Int.mul_nonpos_of_nonneg_of_nonpos (by omega) h6
    simp at h5;omega
  · exact h6
 have hq:nv l/2^(64*n)=rd l (n:Int):=by
  rw[<-Gp,<-h1,AQj _ _ (by omega),AQV h3 h2,ASZ]
 have h7:2^(64*n)<=nv l:=by rw[<-Gp];simpa using h5
 refine⟨?_,by omega⟩;rw[Rg h7,hq];omega
theorem E8 {l:List Int} (h:Wl l):Ev (λk=>Cd.f k l) (bl (nv l)):=by
 have hl:=h.2;have hle:=Fh h.1;have h0:=AN h.1;refine Ev.bind (KO h) ?_;by_cases hz:(dg (nv l)).length=0
 · refine Ev.AI (by omega) (Ev.same ?_)
   rw[(Cq h0).1 hz,Lo]
 · obtain⟨n,hn⟩ : ∃n,(dg (nv l)).length=n+1:=⟨(dg (nv l)).length-1,by omega⟩
   obtain⟨hb,hr⟩:=ZJ h.1 hn;have e:wrap64 (((dg (nv l)).length:Int)-1)=(n:Int):=(by rw[AE (by omega) (by omega)];omega);have hu:=Hl h.1 (n:Int);have qB:=RY hu.2;have hb3:=CM (rd l (n:Int));refine Ev.AO (by omega) ?_;rw[e];refine Ev.AI (by omega) (Ev.AI (by omega) (Ev.bind (Fp hu) (Ev.same ?_)));rw[hb,AE (n:=64*(n:Int)) (by omega) (by omega),AE (by omega) (by omega)]
def YL (x i:Int):Bool:=decide (0<=i)&&decide (x/2^i.toNat%2=1)
theorem tN {l:List Int} (h:Ws l) (i:Nat):nv l/2^i%2=rd l ((i/64:Nat):Int)/2^(i%64)%2:=by
 have e:i=64*(i/64)+i%64:=by omega
 have hp:=FF (i/64)
 conv=>lhs;rw[e,AQK,<-Gp,<-AQa (APs hp),Om h]
 rcases AQS (i/64) l.length with h1 | h1
 · rw[I8 h1,Cb]
   have e2:(18446744073709551616:Int)=2^(i%64)*(2^(63-i%64)*2):=by
    rw[show(2:Int)^(63-i%64)*2=2^(64-i%64) by rw[show 64-i%64=(63-i%64)+1 by omega,AQH],<-AQK,show i%64+(64-i%64)=64 by omega];rfl
   have Mo:=pow_pos (i%64);rw[e2,AQT,AQj _ _ (by omega),show(2:Int)^(63-i%64)*2*nv (l.drop (i/64+1))=2*(2^(63-i%64)*nv (l.drop (i/64+1))) by grind,AQt]
 · rw[AQN h1]
   unfold rd;rw[APt,APr,AQO h1];simp[nv]
theorem AD8 {x:Int} (h:U x) (i:Nat) (hi:i<64):(Go.bits .and .u64 (shr .u64 x (i:Int)) 1==1)=decide (x/2^i%2=1):=by
 have hr:=iw h i;rw[Wd _ _ (by omega),APr,AJH _ hr.1 (by unfold U at h;omega)];by_cases hb:x/2^i%2=1<;>simp[hb]
def AFu (l0:List Int) (a1:Int):Option (Bool):=if a1>=0 then(if(wrap64 (Int.tdiv a1 64))<(l0.length:Int) then(if 0<=(wrap64 (Int.tdiv a1 64)) then(if 0<=(Int.tmod a1 64) then(some ((Go.bits .and .u64 (shr .u64 (rd l0 (wrap64 (Int.tdiv a1 64))) (Int.tmod a1 64)) 1)==1)) else(none)) else(none)) else(some false)) else(some false)
theorem AD9 {l:List Int} (h:Wl l) {i:Int} (hi:i<=9223372036854775807):AFu l i=some (YL (nv l) i):=by
 have hl:=h.2;unfold AFu YL;by_cases h0:i>=0
 · obtain⟨n,rfl⟩:=AP0 h0
   have hb:=tN h.1 n;rw[if_pos h0,AQd h0,AQr h0,AE (by omega) (by omega),APr,hb];have e1:(n:Int)/64=((n/64:Nat):Int):=(by omega);have e2:(n:Int)%64=((n%64:Nat):Int):=(by omega);rw[e1,e2];by_cases h1:((n/64:Nat):Int)<(l.length:Int)
   · rw[if_pos h1,if_pos (by omega),if_pos (by omega),AD8 (Hl h.1 _) _ (by omega)]
     simp
   · rw[if_neg h1]
     have:rd l ((n/64:Nat):Int)=0:=by
      unfold rd;rw[APt,APr,AQO (by omega)];rfl
     rw[this];simp
 · rw[if_neg h0]
   simp;omega
theorem YK {l:List Int} (h:Wl l) {i:Int} (hi:i<=9223372036854775807):Lt.f l i=some (YL (nv l) i):=AD9 h hi
def tzF:Nat->Int->Int
 | 0,_=>0
 | k+1,x=>if x%2=1 then 0 else 1+tzF k (x/2)
def tz (x:Int):Int:=if x<=0 then 0 else tzF x.toNat x
theorem tO : ∀(k:Nat) (x:Int),0<x->x.toNat<=k-> ∃n:Nat,tzF k x=n/\x/2^n%2=1/\ ∀j,j<n->x/2^j%2=0
 | 0,x,h,hk=>by omega
 | k+1,x,h,hk=>by
   unfold tzF;by_cases h1:x%2=1
   · exact⟨0,by rw[if_pos h1];rfl,by simpa using h1,λj hj=>by omega⟩
   · obtain⟨n,e,h2,h3⟩:=tO k (x/2) (by omega) (by omega)
     have hd : ∀j:Nat,x/2^(j+1)=x/2/2^j:=λj=>by
      rw[AQa (by omega),AQH,AP6]
     refine⟨n+1,by rw[if_neg h1,e];omega,by rw[hd];exact h2,λj hj=> ?_⟩;cases j with
     | zero=>rw[AQA,AQs];omega
     | succ j=>rw[hd];exact h3 j (by omega)
theorem Wk {x:Int} (h:0<x) : ∃n:Nat,tz x=n/\x/2^n%2=1/\ ∀j,j<n->x/2^j%2=0:=by
 unfold tz;rw[if_neg (by omega)];exact tO _ x h (AP1 _)
theorem kR {x:Int} (h:0<x):tz x<bl x:=by
 obtain⟨n,e,h1,_⟩:=Wk h;rcases AQf (tz x) (bl x) with h2 | h2
 · exact h2
 · have h3:=HN x
   have h4:=A7 (a:=(bl x).toNat) (b:=n) (by omega);rw[AQV (by omega) (by omega)] at h1;omega
theorem xP {l:List Int} (h:Wl l) {n:Nat} (he:tz (nv l)=n) (h1:nv l/2^n%2=1) (h2 : ∀j,j<n->nv l/2^j%2=0) {len:Int} (hlen:(n:Int)<len) (hn:n<=100000000000) (d:Nat) : ∀i:Nat,i+d=n->Ev (λk=>EE.l0 k l len i) (n:Int):=by
 induction d with
 | zero =>
   intro i hi;obtain rfl:i=n:=by omega
   refine Ev.step (λk=>EE.l0.eq_2 ..) ?_;refine Ev.AI hlen (Ev.AZ (YK h (by omega)) ?_);refine Ev.AI ?_ (Ev.same rfl);unfold YL;rw[APr,h1];simp
 | succ d ih =>
   intro i hi;refine Ev.step (λk=>EE.l0.eq_2 ..) ?_;refine Ev.AI (by omega) (Ev.AZ (YK h (by omega)) ?_);refine Ev.AO ?_ ?_
   · unfold YL
     rw[APr,h2 i (by omega)];simp
   · have e:wrap64 ((i:Int)+1)=((i+1:Nat):Int):=by rw[AE (by omega) (by omega)];omega
     rw[e];exact ih (i+1) (by omega)
theorem wM {l:List Int} (h:Wl l):Ev (λk=>EE.f k l) (tz (nv l)):=by
 have hl:=h.2;have hb:=E9 h.1;have h0:=AN h.1;refine Ev.bind (E8 h) ?_;rcases(show nv l=0\/0<nv l by omega) with hz | hp
 · rw[hz]
   refine Ev.step (λk=>EE.l0.eq_2 ..) ?_;exact Ev.AO (by rw[Lo];omega) (Ev.same rfl)
 · obtain⟨n,e,h1,h2⟩:=Wk hp
   have:=kR hp;rw[e];exact xP h e h1 h2 (by omega) (by omega) n 0 (by omega)
theorem iy (l:List Int) : ∀(k:Nat) (i:Int),BU.l0 k l i=BZ.l0 k l i:=by
 intro k;induction k with
 | zero=>intros;rfl
 | succ k ih=>intros;simp only[BU.l0,BZ.l0,ih]
theorem Db {l:List Int} (h:Wl l):Ev (λk=>BU.f k l) ((dg (nv l)).length:Int):=Ev.congr (λk=>iy ..) (KO h)
theorem oY {l:List Int} (hl:l.length<=1000000000) {n:Nat} (hn:n<=l.length) (d:Nat) : ∀i:Nat,i+d=n->Ev (λk=>Az.l0 k l (l.take i) (n:Int) i) (l.take n):=by
 induction d with
 | zero =>
   intro i hi;refine Ev.step (λk=>Az.l0.eq_2 ..) ?_;obtain rfl:i=n:=by omega
   exact Ev.AO (by omega) (Ev.same rfl)
 | succ d ih =>
   intro i hi;have e:wrap64 ((i:Int)+1)=((i+1:Nat):Int):=(by rw[AE (by omega) (by omega)];omega);refine Ev.step (λk=>Az.l0.eq_2 ..) ?_;refine Ev.AI (by omega) (Ev.AI (by omega) (Ev.AI (by omega) (Ev.AI (by rw[APx];omega) ?_)));rw[e,<-IM (by omega)];exact ih (i+1) (by omega)
theorem Bu {l:List Int} (h:Wl l):Ev (λk=>Az.f k l) (dg (nv l)):=by
 have h1:=Fh h.1;refine Ev.bind (Db h) ?_;have:=oY h.2 h1 (dg (nv l)).length 0 (by omega);rw[oW h.1] at this;exact this
theorem fM {l:List Int} {i:Nat} (h:l.length<=i):rd l (i:Int)=0:=by
 unfold rd;rw[APt,APr,AQO h];rfl
theorem MN (l:List Int) (i:Nat):IJ.f l (i:Int)=some (rd l (i:Int)):=by
 unfold IJ.f;rw[if_neg (by omega)];by_cases h:(i:Int)>=(l.length:Int)
 · rw[if_pos h,fM (by omega)]
 · rw[if_neg h,if_pos (by omega),if_pos (by omega)]
theorem Jh (l:List Int) (i:Nat):nv (l.take (i+1))=nv (l.take i)+Wp i*rd l (i:Int):=by
 rcases AQS i l.length with h | h
 · exact Bo h
 · rw[fM h,I7 h,AQ1,AQ2]
theorem xQ {l:List Int} (h:Ws l) (i:Nat):nv (l.take i)<Wp i:=by
 have h1:=K8 (EM h i);have h2:=fF (List.length_take_le i l);omega
theorem tP {a b:List Int} (ha:Ws a) (hb:Ws b) {i:Nat} (hlt:rd a (i:Int)<rd b (i:Int)):nv (a.take (i+1))<nv (b.take (i+1)):=by
 rw[Jh,Jh];have c1:=xQ ha i;have c2:=AN (EM hb i);have c3:=FF i;have c4:=AQD (show rd a (i:Int)+1<=rd b (i:Int) by omega) (APs c3);rw[ART,AQQ] at c4;omega
theorem AEA (x y z:Int):Gk x y=Gk (x+z) (y+z):=by unfold Gk;split<;>split<;>first | omega | (split<;>first | omega | (split<;>omega))
theorem tQ {a b:List Int} (ha:Ws a) (hb:Ws b) (n:Nat) (hn:n<=2000000000):Ev (λk=>Ck.l0 k a b ((n:Int)-1)) (Gk (nv (a.take n)) (nv (b.take n))):=by
 induction n with
 | zero =>
   refine Ev.step (λk=>Ck.l0.eq_2 ..) ?_;exact Ev.AO (by omega) (Ev.same rfl)
 | succ n ih =>
   have e:((n+1:Nat):Int)-1=(n:Int):=(by omega);rw[e];refine Ev.step (λk=>Ck.l0.eq_2 ..) ?_;refine Ev.AI (by omega) (Ev.AZ (MN a n) (Ev.AZ (MN b n) ?_));by_cases c1:rd a (n:Int)<rd b (n:Int)
   · exact Ev.AI c1 (Ev.same (by rw[bV (tP ha hb c1)]))
   · refine Ev.AO c1 ?_
     by_cases c2:rd a (n:Int)>rd b (n:Int)
     · exact Ev.AI c2 (Ev.same (by rw[oX (tP hb ha c2)]))
     · refine Ev.AO c2 ?_
       rw[AE (by omega) (by omega)];have e2:rd a (n:Int)=rd b (n:Int):=(by omega);refine(ih (by omega)).dc ?_;rw[Jh,Jh,e2];exact AEA ..
theorem JO {a b:List Int} (ha:Wl a) (hb:Wl b):Ev (λk=>Ck.f k a b) (Gk (nv a) (nv b)):=by
 have hal:=ha.2;have hbl:=hb.2;have hm:mx (a.length:Int) (b.length:Int)=((max a.length b.length:Nat):Int):=by unfold mx;split<;>omega
 unfold Ck.f;rw[hm,AE (by omega) (by omega)];refine(tQ ha.1 hb.1 (max a.length b.length) (by omega)).dc ?_;rw[AP5 (by omega),AP5 (by omega)]
theorem Lp {l:List Int} (h:Wl l):Ev (λk=>G7.f k l) (bl (nv l)):=by
 have hl:=h.2;have hle:=Fh h.1;have h0:=AN h.1;refine Ev.bind (Db h) ?_;by_cases hz:(dg (nv l)).length=0
 · refine Ev.AI (by omega) (Ev.same ?_)
   rw[(Cq h0).1 hz,Lo]
 · obtain⟨n,hn⟩ : ∃n,(dg (nv l)).length=n+1:=⟨(dg (nv l)).length-1,by omega⟩
   obtain⟨hb,hr⟩:=ZJ h.1 hn;have e:wrap64 (((dg (nv l)).length:Int)-1)=(n:Int):=(by rw[AE (by omega) (by omega)];omega);have hu:=Hl h.1 (n:Int);have qB:=RY hu.2;have hb3:=CM (rd l (n:Int));refine Ev.AO (by omega) ?_;rw[e];refine Ev.AI (by omega) (Ev.AI (by omega) (Ev.bind (tH hu) (Ev.same ?_)));rw[hb,AE (n:=64*((dg (nv l)).length:Int)) (by omega) (by omega),AE (n:=64*((dg (nv l)).length:Int)-64) (by omega) (by omega),AE (by omega) (by omega)]
   congr 1;omega
theorem oZ (l:List Int) {i:Int} (hi:i<=9223372036854775807):Gy.f l i=AFu l i:=by
 unfold Gy.f AFu;by_cases h:i>=0
 · rw[if_pos h,if_pos h,AQr h,DY (n:=i%64) (by omega) (by omega)]
 · rw[if_neg h,if_neg h]
theorem M8 {l:List Int} (h:Wl l) {i:Int} (hi:i<=9223372036854775807):Gy.f l i=some (YL (nv l) i):=(oZ l hi).trans (AD9 h hi)
theorem oa {l:List Int} (h:Wl l) {n:Nat} (h1:nv l/2^n%2=1) (h2 : ∀j,j<n->nv l/2^j%2=0) (hn:n<=100000000000) (d:Nat) : ∀i:Nat,i+d=n->Ev (λk=>CO.l0 k l i) (n:Int):=by
 induction d with
 | zero =>
   intro i hi;obtain rfl:i=n:=by omega
   refine Ev.step (λk=>CO.l0.eq_2 ..) ?_;refine Ev.AZ (M8 h (by omega)) ?_;refine Ev.AI ?_ (Ev.same rfl);unfold YL;rw[APr,h1];simp
 | succ d ih =>
   intro i hi;refine Ev.step (λk=>CO.l0.eq_2 ..) ?_;refine Ev.AZ (M8 h (by omega)) ?_;refine Ev.AO ?_ ?_
   · unfold YL
     rw[APr,h2 i (by omega)];simp
   · have e:wrap64 ((i:Int)+1)=((i+1:Nat):Int):=by rw[AE (by omega) (by omega)];omega
     rw[e];exact ih (i+1) (by omega)
theorem Pn {l:List Int} (h:Wl l):Ev (λk=>CO.f k l) (tz (nv l)):=by
 have hl:=h.2;have hb:=E9 h.1;have h0:=AN h.1;refine Ev.bind (Db h) ?_;rcases(show nv l=0\/0<nv l by omega) with hz | hp
 · rw[hz]
   exact Ev.AI rfl (Ev.same rfl)
 · obtain⟨n,e,h1,h2⟩:=Wk hp
   have:=kR hp;refine Ev.AO (λh=> ?_) ?_
   · have:=(Cq h0).1 (by omega);omega
   · rw[e]
     exact oa h h1 h2 (by omega) n 0 (by omega)
def hv:List Int->Int
 | []=>0
 | x::l=>x+4294967296*hv l
theorem Ji (x:Int) (l:List Int):hv (x::l)=x+4294967296*hv l:=rfl
def Hs (l:List Int):Prop:= ∀x∈l,0<=x/\x<4294967296
def Hp (n:Nat):Int:=4294967296^n
theorem AFv:Hp 0=1:=rfl
theorem I9 (n:Nat):Hp (n+1)=4294967296*Hp n:=by unfold Hp;rw[AQH,AP6]
theorem xR (n:Nat):0<Hp n:=by
 induction n with
 | zero=>decide
 | succ n ih=>rw[I9];omega
theorem ALf {a b:Nat} (h:a<=b):Hp a<=Hp b:=by
 induction b with
 | zero=>obtain rfl:a=0:=by omega
         exact ASp _
 | succ b ih =>
   rcases(show a=b+1\/a<=b by omega) with h1 | h1
   · rw[h1];exact ASp _
   · have:=ih h1;have:=xR b;rw[I9];omega
theorem ALg (n:Nat):Hp (2*n)=Wp n:=by
 induction n with
 | zero=>rfl
 | succ n ih=>rw[show 2*(n+1)=2*n+1+1 by omega,I9,I9,ih,DV];omega
theorem bf {x:Int} {l:List Int} :Hs (x::l)↔(0<=x/\x<4294967296)/\Hs l:=by unfold Hs;simp
theorem AEB {a b:List Int} :Hs (a++b)↔Hs a/\Hs b:=by
 unfold Hs;simp only[AQM];exact⟨λh=>⟨λx hx=>h x (.inl hx),λx hx=>h x (.inr hx)⟩,λh x hx=>hx.elim (h.1 x) (h.2 x)⟩
theorem zy {a:List Int} {x:Int} (ha:Hs a) (h0:0<=x) (h1:x<4294967296):Hs (a++ [x]):=AEB.2 ⟨ha,λy hy=>by simp at hy;rw[hy];exact⟨h0,h1⟩⟩
theorem xS:Hs []:=λx h=>by simp at h
theorem AAA {l:List Int} (h:Hs l) (n:Nat):Hs (l.take n):=λx hx=>h x (AR2 hx)
theorem AFw {l:List Int} (h:Hs l) (n:Nat):Hs (l.drop n):=λx hx=>h x (AR3 hx)
theorem AAB {l:List Int} (h:Hs l):Ws l:=λx hx=>⟨(h x hx).1,by have:=(h x hx).2;omega⟩
theorem XC {l:List Int} (h:Hs l) (i:Int):0<=rd l i/\rd l i<4294967296:=by
 unfold rd;rw[APt];rcases AQS i.toNat l.length with hi | hi
 · rw[AP4 hi];exact h _ (AQ5 hi)
 · rw[AQO hi];simp
theorem xT (a b:List Int):hv (a++b)=hv a+Hp a.length*hv b:=by
 induction a with
 | nil=>simp[hv,AFv]
 | cons x a ih=>rw[ASA,AQW,I9,Ji,Ji,ih];grind
theorem AIh (x:Int):hv [x]=x:=by rw[Ji];show x+4294967296*0=x;omega
theorem oc (a:List Int) (x:Int):hv (a++ [x])=hv a+Hp a.length*x:=by rw[xT,AIh]
theorem TY {l:List Int} (h:Hs l):0<=hv l:=by
 induction l with
 | nil=>exact ASp 0
 | cons x l ih =>
   have h1:=bf.1 h;have h2:=ih h1.2;rw[Ji];omega
theorem AEC {l:List Int} (h:Hs l):hv l<Hp l.length:=by
 induction l with
 | nil=>decide
 | cons x l ih =>
   have h1:=bf.1 h;have h2:=ih h1.2;rw[AQW,I9,Ji];omega
theorem Fi (l:List Int) (i:Nat):hv (l.take (i+1))=hv (l.take i)+Hp i*rd l (i:Int):=by
 rcases AQS i l.length with h | h
 · rw[IM h,oc,APx,AQB (by omega)]
 · rw[fM h,I7 h,AQ1,AQ2]
theorem fN {l:List Int} (h:Hs l) (i:Nat):hv (l.take i)<Hp i:=by
 have h1:=AEC (AAA h i);have h2:=ALf (List.length_take_le i l);omega
theorem AED (l:List Int) (i:Nat):hv l=hv (l.take i)+Hp (min i l.length)*hv (l.drop i):=by
 have:=xT (l.take i) (l.drop i);rw[ARM,APx] at this;exact this
theorem xU {r:List Int} (h:Ws r) (h0:nv r=0):hv r=0:=by
 induction r with
 | nil=>rfl
 | cons x r ih =>
   have h1:=Gq.1 h;have h2:=AN h1.2;unfold U at h1;rw[Cb] at h0;have:=ih h1.2 (by omega);rw[Ji,this];omega
def hl:List Int->List Int
 | []=> []
 | x::l=>x%4294967296::x/4294967296::hl l
theorem AGz {l:List Int} (h:Ws l):Hs (hl l):=by
 induction l with
 | nil=>exact xS
 | cons x l ih =>
   have h1:=Gq.1 h;unfold U at h1;exact bf.2 ⟨by omega,bf.2 ⟨by omega,ih h1.2⟩⟩
theorem ALh (l:List Int):hv (hl l)=nv l:=by
 induction l with
 | nil=>rfl
 | cons x l ih=>show hv (x%4294967296::x/4294967296::hl l)=_;rw[Ji,Ji,ih,Cb];omega
theorem xV (l:List Int):(hl l).length=2*l.length:=by
 induction l with
 | nil=>rfl
 | cons x l ih=>show(x%4294967296::x/4294967296::hl l).length=_;simp[ih];omega
theorem AIi (a b:List Int):hl (a++b)=hl a++hl b:=by
 induction a with
 | nil=>rfl
 | cons x a ih=>show x%4294967296::x/4294967296::hl (a++b)=_;rw[ih];rfl
def hh (l:List Int):List Int:=dg (nv (hl l))
theorem TZ {l:List Int} (h:Ws l):Hs (hh l)/\hv (hh l)=nv l/\(hh l).length<=2*l.length:=by
 have h1:=AGz h;obtain⟨r,hr,hz⟩:=YZ (AAB h1);have h2:Hs (dg (nv (hl l))++r):=hr▸h1;have h3:=AEB.1 h2;refine⟨h3.1, ?_, ?_⟩
 · have h4:=xT (dg (nv (hl l))) r
   rw[<-hr,ALh,xU (AAB h3.2) hz,AQ1,AQ2] at h4;exact h4.symm
 · have:=Fh (AAB h1)
   rw[xV] at this;exact this
theorem fP {a:List Int} (ha:Wl a) (hla:a.length<=400000000) (d:Nat) : ∀i:Nat,i+d=a.length->Ev (λk=>Bi.l0 k a (hl (a.take i)) (a.length:Int) i) (hh a):=by
 induction d with
 | zero =>
   intro i hi;refine Ev.step (λk=>Bi.l0.eq_2 ..) ?_;refine Ev.AO (by omega) ?_;rw[AP5 (by omega)];exact Ev.bind (Bu ⟨AAB (AGz ha.1),by rw[xV];omega⟩) (Ev.same rfl)
 | succ d ih =>
   intro i hi;have hx:=Hl ha.1 (i:Int);have e:wrap64 ((i:Int)+1)=((i+1:Nat):Int):=(by rw[AE (by omega) (by omega)];omega);have hlen:(hl (a.take i)).length=2*i:=(by rw[xV,APx];omega);refine Ev.step (λk=>Bi.l0.eq_2 ..) ?_;refine Ev.AI (by omega) (Ev.AI (by omega) (Ev.AI (by omega) (Ev.AI (by omega) ?_)));refine Ev.AZ rfl (Ev.AI (by rw[AP3,hlen];simp;omega) ?_);unfold U at hx;rw[e,UX _ hx.1 hx.2];have e2:hl (a.take i)++ [rd a (i:Int)%4294967296]++ [rd a (i:Int)/4294967296]=hl (a.take (i+1)):=by
    rw[IM (by omega),AIi,AQ6];rfl
   rw[e2];exact ih (i+1) (by omega)
theorem GN {a:List Int} (ha:Wl a) (hla:a.length<=400000000):Ev (λk=>Bi.f k a) (hh a):=fP ha hla a.length 0 (by omega)
theorem iz {h:List Int} (hh:Hs h) (hl:h.length<=1000000000) (d:Nat) : ∀(j:Nat) (out:List Int),2*j+d>=h.length->out.length=j->Ws out->j<=600000000->nv out=hv (h.take (2*j))->Ev (λk=>CD.l0 k h out ((2*j:Nat):Int)) (dg (hv h)):=by
 induction d with
 | zero =>
   intro j out hj hlo O8 hj2 he;refine Ev.step (λk=>CD.l0.eq_2 ..) ?_;refine Ev.AO (by omega) ?_;rw[AP5 (by omega)] at he;rw[<-he];exact Ev.bind (Bu ⟨O8,by omega⟩) (Ev.same rfl)
 | succ d ih =>
   intro j out hj hlo O8 hj2 he;refine Ev.step (λk=>CD.l0.eq_2 ..) ?_;by_cases hend:((2*j:Nat):Int)<(h.length:Int)
   · have x0:=XC hh ((2*j:Nat):Int)
     have y0:=XC hh ((2*j+1:Nat):Int);have e1:wrap64 (((2*j:Nat):Int)+1)=((2*j+1:Nat):Int):=(by rw[AE (by omega) (by omega)];omega);have e2:wrap64 (((2*j:Nat):Int)+2)=((2*(j+1):Nat):Int):=(by rw[AE (by omega) (by omega)];omega);have step : ∀w:Int,w=rd h ((2*j:Nat):Int)+4294967296*rd h ((2*j+1:Nat):Int)->Ev (λk=>CD.l0 k h (out++ [w]) ((2*(j+1):Nat):Int)) (dg (hv h)):=by
      intro w hw;refine ih (j+1) _ (by omega) (by rw[AP3,hlo];rfl) (Ki O8 (by unfold U;omega)) (by omega) ?_;rw[IL,hlo,he,show 2*(j+1)=2*j+1+1 by omega,Fi,Fi,I9,ALg,hw]
      grind
     refine Ev.AI hend (Ev.AI (by omega) ?_);rw[e1,e2];by_cases hn:((2*j+1:Nat):Int)<(h.length:Int)
     · refine Ev.AI hn (Ev.AI (by omega) (Ev.AI (by omega) (step _ ?_)))
       rw[DY (by omega) (by omega),or_comm _ _ (by omega) (by omega) (by omega) (by omega),F6 32 _ _ (by omega) (by omega) (by omega) (by omega) (by omega) (by omega)];omega
     · refine Ev.AO hn (Ev.AI (by omega) (step _ ?_))
       rw[fM (i:=2*j+1) (by omega)];omega
   · refine Ev.AO hend ?_
     rw[AP5 (by omega)] at he;rw[<-he];exact Ev.bind (Bu ⟨O8,by omega⟩) (Ev.same rfl)
theorem N5 {h:List Int} (hh:Hs h) (hl:h.length<=1000000000):Ev (λk=>CD.f k h) (dg (hv h)):=iz hh hl h.length 0 [] (by omega) rfl GI (by omega) rfl
theorem tR {x y:List Int} (hx:Hs x) (hy:Hs y) {n:Nat} (hn:n<=900000000) (hxn:x.length<n) (hyn:y.length<n) (d:Nat) : ∀(i:Nat) (out:List Int) (c:Int),i+d=n->out.length=i->Hs out->0<=c->c<=1->hv out+Hp i*c=hv (x.take i)+hv (y.take i)->Ev (λk=>Ir.l0 k x y out c (n:Int) i) (dg (hv x+hv y)):=by
 induction d with
 | zero =>
   intro i out c hi hlo O8 h0 h1 he;refine Ev.step (λk=>Ir.l0.eq_2 ..) ?_;refine Ev.AO (by omega) ?_;obtain⟨m,rfl⟩ : ∃m,i=m+1:=⟨i-1,by omega⟩;have b1:=fN hx m;have b2:=fN hy m;have b3:=TY O8;have hp:=xR m;rw[AP5 (by omega)] at b1 b2;rw[AP5 (by omega),AP5 (by omega),I9] at he;have hc:c=0:=by
    rcases(show c=0\/c=1 by omega) with h | h
    · exact h
    · subst h;omega
   subst hc;rw[<-he,AQ1,AQ2];exact Ev.bind (N5 O8 (by omega)) (Ev.same rfl)
 | succ d ih =>
   intro i out c hi hlo O8 h0 h1 he;have HE:=Hd.mk he;clear he;have x0:=XC hx (i:Int);have y0:=XC hy (i:Int);have e:wrap64 ((i:Int)+1)=((i+1:Nat):Int):=(by rw[AE (by omega) (by omega)];omega);refine Ev.step (λk=>Ir.l0.eq_2 ..) ?_;refine Ev.AI (by omega) (Ev.AZ (MN x i) (Ev.AZ (MN y i) (Ev.AI (by omega) ?_)));rw[e,DY (n:=c+rd x (i:Int)) (by omega) (by omega),DY (by omega) (by omega),UX _ (by omega) (by omega)];refine ih (i+1) _ _ (by omega) (by rw[AP3,hlo];rfl) (zy O8 (by omega) (by omega)) (by omega) (by omega) ?_;have he:=HE.out;rw[oc,hlo,Fi,Fi,I9];have hs:c+rd x (i:Int)+rd y (i:Int)=4294967296*((c+rd x (i:Int)+rd y (i:Int))/4294967296)+(c+rd x (i:Int)+rd y (i:Int))%4294967296:=(by omega);generalize (c+rd x (i:Int)+rd y (i:Int))/4294967296=q at *;generalize (c+rd x (i:Int)+rd y (i:Int))%4294967296=r at *;have hc:c=4294967296*q+r-rd x (i:Int)-rd y (i:Int):=(by omega);rw[hc] at he
   grind
theorem Y6 {a b:List Int} (ha:Wl a) (hb:Wl b) (hla:a.length<=400000000) (hlb:b.length<=400000000):Ev (λk=>Ir.f k a b) (dg (nv a+nv b)):=by
 obtain⟨a1,a2,a3⟩:=TZ ha.1;obtain⟨b1,b2,b3⟩:=TZ hb.1;refine Ev.bind (GN ha hla) (Ev.bind (GN hb hlb) ?_);have hm:wrap64 (mx ((hh a).length:Int) ((hh b).length:Int)+1)=((max (hh a).length (hh b).length+1:Nat):Int):=by
  unfold mx;rw[AE (by split<;>omega) (by split<;>omega)];split<;>omega
 rw[hm,<-a2,<-b2];exact tR a1 b1 (n:=max (hh a).length (hh b).length+1) (by omega) (by omega) (by omega) (max (hh a).length (hh b).length+1) 0 [] 0 (by omega) rfl xS (by omega) (by omega) rfl
theorem tS {x y:List Int} (hx:Hs x) (hy:Hs y) (hge:hv y<=hv x) (hn:x.length<=900000000) (d:Nat) : ∀(i:Nat) (out:List Int) (c:Int),i+d=x.length->out.length=i->Hs out->0<=c->c<=1->hv out-Hp i*c=hv (x.take i)-hv (y.take i)->Ev (λk=>DL.l0 k x y out c (x.length:Int) i) (dg (hv x-hv y)):=by
 induction d with
 | zero =>
   intro i out c hi hlo O8 h0 h1 he;refine Ev.step (λk=>DL.l0.eq_2 ..) ?_;refine Ev.AO (by omega) ?_;have hi2:i=x.length:=(by omega);subst hi2;rw[AQ3] at he;have qB:=AED y x.length;have hn1:=TY O8;have hn2:=AEC O8;rw[hlo] at hn2;have hn3:=TY (AAA hy x.length);have hn4:=TY (AFw hy x.length);have hn5:=AEC hx;have hp:=xR x.length;have hz:Hp (min x.length y.length)*hv (y.drop x.length)=0:=by
    rcases AQS x.length y.length with hlt | hgt
    · rw[AQB (by omega)] at qB ⊢
      rcases(show hv (y.drop x.length)=0\/1<=hv (y.drop x.length) by omega) with h | h
      · rw[h,AQ1]
      · have:=AQD h (APs hp)
        omega
    · rw[AQN hgt];simp[hv]
   have hu:c=0:=by
    rcases(show c=0\/c=1 by omega) with h | h
    · exact h
    · subst h;omega
   subst hu;have e:hv x-hv y=hv out:=(by omega);rw[e];exact Ev.bind (N5 O8 (by omega)) (Ev.same rfl)
 | succ d ih =>
   intro i out c hi hlo O8 h0 h1 he;have HE:=Hd.mk he;clear he;have x0:=XC hx (i:Int);have y0:=XC hy (i:Int);have e:wrap64 ((i:Int)+1)=((i+1:Nat):Int):=(by rw[AE (by omega) (by omega)];omega);refine Ev.step (λk=>DL.l0.eq_2 ..) ?_;refine Ev.AI (by omega) (Ev.AI (by omega) (Ev.AI (by omega) (Ev.AZ (MN y i) (Ev.AI (by omega) ?_))));have hw:IntKind.u64.wrap (IntKind.u64.wrap (IntKind.u64.wrap (4294967296+rd x (i:Int))-rd y (i:Int))-c)=4294967296+rd x (i:Int)-rd y (i:Int)-c:=by
    rw[wu,wu,wu];omega
   rw[e,hw,UX _ (by omega) (by omega),DY (n:=1-(4294967296+rd x (i:Int)-rd y (i:Int)-c)/4294967296) (by omega) (by omega)];refine ih (i+1) _ _ (by omega) (by rw[AP3,hlo];rfl) (zy O8 (by omega) (by omega)) (by omega) (by omega) ?_;have he:=HE.out;rw[oc,hlo,Fi,Fi,I9];have hs:4294967296+rd x (i:Int)-rd y (i:Int)-c=4294967296*((4294967296+rd x (i:Int)-rd y (i:Int)-c)/4294967296)+(4294967296+rd x (i:Int)-rd y (i:Int)-c)%4294967296:=(by omega);generalize (4294967296+rd x (i:Int)-rd y (i:Int)-c)/4294967296=q at *;generalize (4294967296+rd x (i:Int)-rd y (i:Int)-c)%4294967296=r at *;have hc:c=4294967296+rd x (i:Int)-rd y (i:Int)-4294967296*q-r:=(by omega);rw[hc] at he
   grind
theorem Rh {a b:List Int} (ha:Wl a) (hb:Wl b) (hla:a.length<=400000000) (hlb:b.length<=400000000) (hge:nv b<=nv a):Ev (λk=>DL.f k a b) (dg (nv a-nv b)):=by
 obtain⟨a1,a2,a3⟩:=TZ ha.1;obtain⟨b1,b2,b3⟩:=TZ hb.1;refine Ev.bind (GN ha hla) (Ev.bind (GN hb hlb) ?_);rw[<-a2,<-b2];exact tS a1 b1 (by omega) (by omega) (hh a).length 0 [] 0 (by omega) rfl xS (by omega) (by omega) rfl
theorem tT {a b:List Int} {i:Nat} (h:i<a.length):rd (a++b) (i:Int)=rd a (i:Int):=by
 unfold rd;rw[APt,APt,APr,AQg h]
theorem XD {a b:List Int} {i:Nat} (h:a.length<=i):rd (a++b) (i:Int)=rd b ((i-a.length:Nat):Int):=by
 unfold rd;rw[APt,APt,APr,APr,AQq h]
theorem fQ (a:List Int) (x:Int) (b:List Int):rd (a++x::b) (a.length:Int)=x:=by
 rw[XD (AP1 _),ASw];rfl
theorem AFx (a:List Int) (x y:Int) (b:List Int):rd (a++x::y::b) ((a.length+1:Nat):Int)=y:=by
 rw[XD (by omega),Nat.add_sub_cancel_left];rfl
theorem XE (a:List Int) (x y:Int) (b:List Int):(a++x::b).set a.length y=a++y::b:=by
 rw[ATF _ _ (AP1 _),ASw];rfl
theorem AFy {l:List Int} {i n:Nat} (h:i<n):rd (l.take n) (i:Int)=rd l (i:Int):=by
 unfold rd;rw[APt,APt,APr,ASH h]
theorem oh {o:List Int} (ho:Wl o) (hl:o.length<=999999999) {s:Nat} (hs:s<=63) (hs0:1<=s) (i:Nat) : ∀T:List Int,i<o.length->T.length=o.length-(i+1)->Ws T->nv (o.take (i+1))*2^s+Wp (i+1)*(nv T-rd o (i:Int)/2^(64-s))=nv o*2^s ->
 Ev (λk=>Aq.l2 k (o.take (i+1)++T) (s:Int) (i:Int)) (dg (nv o*2^s)):=by
 have hp:=pow_pos s;have e64:(64-(s:Int)).toNat=64-s:=by omega
 induction i with
 | zero =>
   intro T hi hT hwT he;have hx:=Hl ho.1 ((0:Nat):Int);obtain⟨w1,w2,w3,w4,w5⟩:=fJ hx hs (c:=0) (by omega) hp;have e0:o.take (0+1)++T= []++rd o ((0:Nat):Int)::T:=(by rw[IM hi];rfl);refine Ev.step (λk=>Aq.l2.eq_2 ..) ?_;refine Ev.AO (by omega) (Ev.AI (by rw[e0];simp) ?_);rw[APr,e0];have er:rd ([]++rd o ((0:Nat):Int)::T) 0=rd o ((0:Nat):Int):=fQ [] _ T;have es : ∀v,([]++rd o ((0:Nat):Int)::T).set (0:Int).toNat v=v::T:=λv=>rfl
   rw[er,es,wu];rw[IM hi,IL] at he;simp only[AR8,ARy,NH,DV,nv,ASZ,ARL,AQQ] at he;rw[AQ2] at w5;have hv:nv (rd o ((0:Nat):Int)*2^s%18446744073709551616::T)=nv o*2^s:=by
    rw[Cb];omega
   rw[<-hv];exact Ev.bind (Bu ⟨Gq.2 ⟨w5,hwT⟩,by simp;omega⟩) (Ev.same rfl)
 | succ i ih =>
   intro T hi hT hwT he;have hx:=Hl ho.1 ((i+1:Nat):Int);have hy:=Hl ho.1 (i:Int);have q0:0<=rd o (i:Int)/2^(64-s):=AQC hy.1 (APs (pow_pos _));have q1:rd o (i:Int)/2^(64-s)<2^s:=by
    rw[AQL (pow_pos _),AP6,bZ (by omega)];exact hy.2
   obtain⟨w1,w2,w3,w4,w5⟩:=fJ hx hs q0 q1;have HE:=Hd.mk he;have W2:=Hd.mk w2;clear he w2 w3 w4;have ll:(o.take (i+1)).length=i+1:=(by rw[APx];omega);have e1:o.take (i+1+1)++T=o.take (i+1)++rd o ((i+1:Nat):Int)::T:=(by rw[IM hi,AQ6];rfl);have e2:rd (o.take (i+1)++rd o ((i+1:Nat):Int)::T) ((i+1:Nat):Int)=rd o ((i+1:Nat):Int):=by
    have:=fQ (o.take (i+1)) (rd o ((i+1:Nat):Int)) T
    rwa [ll] at this
   have e3:rd (o.take (i+1)++rd o ((i+1:Nat):Int)::T) (i:Int)=rd o (i:Int):=by
    rw[tT (by omega),AFy (by omega)]
   have e4 : ∀v,(o.take (i+1)++rd o ((i+1:Nat):Int)::T).set ((i+1:Nat):Int).toNat v=o.take (i+1)++v::T:=by
    intro v;have:=XE (o.take (i+1)) (rd o ((i+1:Nat):Int)) v T
    rwa [ll] at this
   have e5:wrap64 (((i+1:Nat):Int)-1)=(i:Int):=(by rw[AE (by omega) (by omega)];omega);have e6:(o.take (i+1)++rd o ((i+1:Nat):Int)::T).length=o.length:=(by rw[AP3,AQW,ll,hT];omega);rw[e1];refine Ev.step (λk=>Aq.l2.eq_2 ..) ?_;refine Ev.AI (by omega) (Ev.AI (by omega) (Ev.AI (by rw[e6];omega) ?_));rw[e5];refine Ev.AI (by omega) (Ev.AI (by rw[e6];omega) ?_);rw[e2,e3,e4,e64,APr,w1];refine ih _ (by omega) (by rw[AQW,hT];omega) (Gq.2 ⟨w5,hwT⟩) ?_;rw[<-HE.out,Cb,Bo hi,DV (i+1)];have w2:=W2.out;generalize rd o ((i+1:Nat):Int)*2^s%18446744073709551616=r at *;generalize rd o ((i+1:Nat):Int)/2^(64-s)=q at *;generalize rd o (i:Int)/2^(64-s)=p at *;rw[ARY,AQT,w2]
   grind
theorem om {a:List Int} (ha:Wl a) (hla:a.length<=900000000) {n m s:Nat} (hn:n=64*m+s) (hs:s<=63) (hm:m<=1024) (d:Nat) : ∀i:Nat,i+d=a.length->Ev (λk=>Aq.l1 k a (n:Int) (List.replicate m 0++a.take i) (a.length:Int) i) (dg (nv a*2^n)):=by
 induction d with
 | zero =>
   intro i hi;have hw:Wl (List.replicate m 0++a):=⟨RU.2 ⟨W8 _,ha.1⟩,by simp;omega⟩;have hv:nv (List.replicate m 0++a)=Wp m*nv a:=(by rw[fG,R6];simp);refine Ev.step (λk=>Aq.l1.eq_2 ..) ?_;refine Ev.AO (by omega) ?_;rw[AP5 (by omega)];by_cases h0:s=0
   · refine Ev.AI (by omega) ?_
     have:nv a*2^n=nv (List.replicate m 0++a):=(by rw[hv,hn,h0,ASu,<-Gp,AP6]);rw[this];exact Ev.bind (Bu hw) (Ev.same rfl)
   · have es:(n:Int)%64=(s:Int):=by omega
     rw[es];refine Ev.AO (by omega) (Ev.AI (by simp;omega) ?_);refine Ev.AZ rfl ?_;have hlen:(List.replicate m 0++a++ [0]).length=m+a.length+1:=(by simp;omega);have ew:wrap64 (((List.replicate m 0++a++ [(0:Int)]).length:Int)-1)=((m+a.length:Nat):Int):=(by rw[hlen,AE (by omega) (by omega)];omega);rw[ew];have O8:Wl (List.replicate m 0++a++ [0]):=⟨Ki hw.1 (by unfold U;omega),by rw[hlen];omega⟩;have hvo:nv (List.replicate m 0++a++ [0])=Wp m*nv a:=(by rw[IL,hv];omega);have h:=oh O8 (by rw[hlen];omega) hs (by omega) (m+a.length) [] (by rw[hlen];omega) (by rw[hlen];simp) GI (by
      have hr:rd (List.replicate m 0++a++ [(0:Int)]) ((m+a.length:Nat):Int)=0:=by
       have:=fQ (List.replicate m 0++a) (0:Int) []
       rwa [show(List.replicate m (0:Int)++a).length=m+a.length by simp] at this
      rw[hr,AP5 (by rw[hlen];omega)];simp[nv])
     rw[ARC,AP5 (by rw[hlen];omega)] at h;refine h.dc ?_;rw[hvo,hn,AQK,<-Gp]
     congr 1
     grind
 | succ d ih =>
   intro i hi;have e:wrap64 ((i:Int)+1)=((i+1:Nat):Int):=(by rw[AE (by omega) (by omega)];omega);refine Ev.step (λk=>Aq.l1.eq_2 ..) ?_;refine Ev.AI (by omega) (Ev.AI (by omega) (Ev.AI (by omega) (Ev.AI (by simp;omega) ?_)));rw[e,AQ6,<-IM (by omega)];exact ih (i+1) (by omega)
theorem oo {a:List Int} (ha:Wl a) (hla:a.length<=900000000) {n m s:Nat} (hn:n=64*m+s) (hs:s<=63) (hm:m<=1024) (d:Nat) : ∀i:Nat,i+d=m->Ev (λk=>Aq.l0 k a (n:Int) (List.replicate i 0) (m:Int) i) (dg (nv a*2^n)):=by
 induction d with
 | zero =>
   intro i hi;obtain rfl:i=m:=by omega
   refine Ev.step (λk=>Aq.l0.eq_2 ..) ?_;refine Ev.AO (by omega) ?_;have h:=om ha hla hn hs hm a.length 0 (by omega)
   rwa [AR8,ARC] at h
 | succ d ih =>
   intro i hi;have e:wrap64 ((i:Int)+1)=((i+1:Nat):Int):=(by rw[AE (by omega) (by omega)];omega);refine Ev.step (λk=>Aq.l0.eq_2 ..) ?_;refine Ev.AI (by omega) (Ev.AI (by simp;omega) ?_);rw[e,<-ASg];exact ih (i+1) (by omega)
theorem GX {a:List Int} (ha:Wl a) (hla:a.length<=900000000) (n:Int):Ev (λk=>Aq.f k a n) (dg (nv a*2^sD n)):=by
 have hs:=AD7 n;obtain⟨b,m,hb,hm,hbm⟩ : ∃b m:Nat,b<=63/\m<=1024/\sD n=64*m+b:=⟨sD n%64,sD n/64,by omega,by omega,by omega⟩;unfold Aq.f;rw[xO,show(sD n:Int)/64=(m:Int) by omega];exact oo ha hla hbm hb hm m 0 (by omega)
theorem ot {o:List Int} (ho:Wl o) {s:Nat} (hs:s<=63) (d:Nat) : ∀(i:Nat) (R:List Int),i+d=o.length->R.length=i->Ws R->nv R+Wp i*(nv (o.drop i)/2^s)=nv o/2^s ->
 Ev (λk=>BC.l1 k (R++o.drop i) (s:Int) (o.length:Int) i) (dg (nv o/2^s)):=by
 have hol:=ho.2;have e64:(64-(s:Int)).toNat=64-s:=by omega
 induction d with
 | zero =>
   intro i R hi hR hwR he;refine Ev.step (λk=>BC.l1.eq_2 ..) ?_;refine Ev.AO (by omega) ?_;rw[AQN (by omega)] at he ⊢;simp[nv] at he;rw[<-he,ARC];exact Ev.bind (Bu ⟨hwR,by omega⟩) (Ev.same rfl)
 | succ d ih =>
   intro i R hi hR hwR he;have hx:=Hl ho.1 (i:Int);have hz:=Hl ho.1 ((i+1:Nat):Int);rw[I8 (show i<o.length by omega)] at he ⊢;rw[Cb] at he;have HE:=Hd.mk he;clear he;have e:wrap64 ((i:Int)+1)=((i+1:Nat):Int):=(by rw[AE (by omega) (by omega)];omega);have r1:rd (R++rd o (i:Int)::o.drop (i+1)) (i:Int)=rd o (i:Int):=(by rw[<-hR];exact fQ ..);have s1 : ∀v:Int,(R++rd o (i:Int)::o.drop (i+1)).set (i:Int).toNat v=R++v::o.drop (i+1):=λv=>by
    rw[APr,<-hR];exact XE ..
   have r2 : ∀v:Int,rd (R++v::o.drop (i+1)) (i:Int)=v:=λv=>by rw[<-hR];exact fQ ..
   have s2 : ∀v u:Int,(R++v::o.drop (i+1)).set (i:Int).toNat u=R++u::o.drop (i+1):=λv u=>by
    rw[APr,<-hR];exact XE ..
   have l1 : ∀v:Int,(R++v::o.drop (i+1)).length=o.length:=λv=>by simp[hR];omega
   refine Ev.step (λk=>BC.l1.eq_2 ..) ?_;refine Ev.AI (by omega) (Ev.AI (by omega) (Ev.AI (by rw[l1];omega) ?_));rw[r1,s1,e,APr,e64];refine Ev.AZ rfl ?_;have next : ∀w:Int,U w->(rd o (i:Int)+18446744073709551616*nv (o.drop (i+1)))/2^s=w+18446744073709551616*(nv (o.drop (i+1))/2^s)->Ev (λk=>BC.l1 k (R++w::o.drop (i+1)) (s:Int) (o.length:Int) ((i+1:Nat):Int)) (dg (nv o/2^s)):=by
    intro w hw hq;have h:=ih (i+1) (R++ [w]) (by omega) (by rw[AP3,hR];rfl) (Ki hwR hw) (by
     have he:=HE.out;rw[hq] at he;rw[IL,hR,DV,<-he]
     grind)
    rwa [AQ6] at h
   by_cases hn:((i+1:Nat):Int)<(o.length:Int)
   · obtain⟨w1,w2,w3⟩:=fK (T:=nv (o.drop (i+1))) hx hz hs ⟨nv (o.drop (i+1+1)),by rw[I8 (show i+1<o.length by omega),Cb]⟩
     have r3 : ∀v:Int,rd (R++v::o.drop (i+1)) ((i+1:Nat):Int)=rd o ((i+1:Nat):Int):=λv=>by
      rw[I8 (show i+1<o.length by omega),<-hR];exact AFx ..
     refine Ev.AI (by rw[l1];exact hn) (Ev.AI (by omega) ?_);rw[r2,r3,s2];have hw:IntKind.u64.wrap (IntKind.u64.wrap (rd o ((i+1:Nat):Int)*2)*2^(63-s))=IntKind.u64.wrap (rd o ((i+1:Nat):Int)*2^(64-s)):=by
      rw[wu,wu,wu,mul_mod_left,AQT,show(2:Int)*2^(63-s)=2^(64-s) by rw[show 64-s=(63-s)+1 by omega,AQH,AP6]]
     rw[hw] at w1;rw[w1];exact next _ w2 w3
   · obtain⟨w1,w2,w3⟩:=kQ (T:=nv (o.drop (i+1))) hx hs (by rw[AQN (by omega)];rfl)
     refine Ev.AO (by rw[l1];exact hn) ?_;exact next _ w2 w3
theorem ou {a:List Int} (ha:Wl a) {n m s:Nat} (hn:n=64*m+s) (hs:s<=63) (d:Nat) : ∀i:Nat,i+d=a.length->m<=i->Ev (λk=>BC.l0 k a (n:Int) ((a.drop m).take (i-m)) i) (dg (nv a/2^n)):=by
 have hal:=ha.2;have hdiv:nv a/2^n=nv (a.drop m)/2^s:=by
  have hp:=FF m;rw[hn,AQK,<-Gp,<-AQa (by omega),Om ha.1]
 induction d with
 | zero =>
   intro i hi hmi;have hw:Wl (a.drop m):=⟨NI ha.1 m,by simp;omega⟩;refine Ev.step (λk=>BC.l0.eq_2 ..) ?_;refine Ev.AO (by omega) ?_;rw[AP5 (by simp;omega),show(n:Int)%64=(s:Int) by omega,hdiv];by_cases h0:s=0
   · refine Ev.AI (by omega) ?_
     rw[h0,AQA,AQs];exact Ev.bind (Bu hw) (Ev.same rfl)
   · refine Ev.AO (by omega) ?_
     exact ot hw hs (a.drop m).length 0 [] (by omega) rfl GI (by simp[nv,NH])
 | succ d ih =>
   intro i hi hmi;have e:wrap64 ((i:Int)+1)=((i+1:Nat):Int):=(by rw[AE (by omega) (by omega)];omega);have e2:(a.drop m).take (i-m)++ [rd a (i:Int)]=(a.drop m).take (i+1-m):=by
    have h1:=IM (l:=a.drop m) (i:=i-m) (by simp;omega);have h2:rd (a.drop m) ((i-m:Nat):Int)=rd a (i:Int):=by
     unfold rd;rw[APt,APt,APr,APr,AQI,show m+(i-m)=i by omega]
    rw[h2] at h1;rw[ZI hmi,h1]
   refine Ev.step (λk=>BC.l0.eq_2 ..) ?_;refine Ev.AI (by omega) (Ev.AI (by omega) (Ev.AI (by simp;omega) ?_));rw[e,e2];exact ih (i+1) (by omega) (by omega)
theorem Kz {a:List Int} (ha:Wl a) {n:Int} (hn:n<=9223372036854775807):Ev (λk=>BC.f k a n) (dg (nv a/2^n.toNat)):=by
 have hal:=ha.2;have hmx:mx n 0=(n.toNat:Int):=by unfold mx;split<;>omega
 obtain⟨b,m,hb,hbm⟩ : ∃b m:Nat,b<=63/\n.toNat=64*m+b:=⟨n.toNat%64,n.toNat/64,by omega,by omega⟩;have e1:wrap64 ((n.toNat:Int)/64)=(m:Int):=by rw[AE (by omega) (by omega)];omega
 unfold BC.f;rw[hmx,e1];rcases AQS m a.length with h | h
 · have:=ou ha hbm hb (a.length-m) m (by omega) (AP1 _)
   rwa [ASw,AR8] at this
 · have hz:nv a/2^n.toNat=0:=by
    have h1:=K8 ha.1;have h2:=fF h;rw[hbm,AQK,<-Gp];have h3:=pow_pos b;have h4:=AQD (show 1<=(2:Int)^b by omega) (APs (FF m));exact AQV (AN ha.1) (by omega)
   rw[hz];refine Ev.step (λk=>BC.l0.eq_2 ..) ?_;refine Ev.AO (by omega) ?_;by_cases h0:(n.toNat:Int)%64=0
   · exact Ev.AI h0 (Ev.bind (Bu ⟨GI,by simp⟩) (Ev.same rfl))
   · refine Ev.AO h0 (Ev.step (λk=>BC.l1.eq_2 ..) (Ev.AO (by simp) ?_))
     exact Ev.bind (Bu ⟨GI,by simp⟩) (Ev.same rfl)
theorem VU : ∀(l:List Int) (p:Nat) (v:Int),p<l.length->nv (l.set p v)=nv l+Wp p*(v-rd l (p:Int))
 | [],p,v,h=>by simp at h
 | x::t,0,v,h=>by
   show v+18446744073709551616*nv t=x+18446744073709551616*nv t+1*(v-x);omega
 | x::t,p+1,v,h=>by
   have ih:=VU t p v (by simpa using h);have e:rd (x::t) ((p+1:Nat):Int)=rd t (p:Int):=(by unfold rd;simp);rw[ARf,Cb,Cb,ih,e,DV,ART,AQT,Int.add_assoc]
theorem Yb {l:List Int} (h:Ws l) (p:Nat) {v:Int} (hv:U v):Ws (l.set p v):=λx hx=>by
 rcases AS2 hx with h1 | h1
 · exact h x h1
 · rw[h1];exact hv
theorem JS {l:List Int} {p q:Nat} {v:Int} (h:p≠q):rd (l.set p v) (q:Int)=rd l (q:Int):=by
 unfold rd;rw[APt,APt,APr,AQE h]
theorem tU (n i:Nat):rd (List.replicate n 0) (i:Int)=0:=by
 unfold rd;rw[APt,APr,ARA];split<;>rfl
theorem tV {B x y s c hi lo v ov:Int} (hB:0<B) (hx0:0<=x) (hx:x<B) (hy0:0<=y) (hy:y<B) (hs0:0<=s) (hs:s<B) (hc0:0<=c) (hc:c<B)
 (e1:x*y=B*hi+lo) (e2:s+lo+c=B*ov+v) (hl0:0<=lo) (hv0:0<=v):hi+ov<B:=by
 have h1:x*y<=(B-1)*(B-1):=AST (by omega) (by omega) hy0 (by omega);have h2:(B-1)*(B-1)=B*B-2*B+1:=by grind
 have h3:B*(hi+ov)<B*B:=by
  have:B*(hi+ov)=B*hi+B*ov:=ART ..;omega
 exact Int.lt_of_mul_lt_mul_left h3 (APs hB)
theorem ow {a b:List Int} (ha:Wl a) (hb:Wl b) (hab:a.length+b.length<=1000000000) {i:Nat} (hi:i<a.length) {N:Int}
 (next : ∀z:List Int,z.length=a.length+b.length->Ws z->nv z=nv (a.take (i+1))*nv b->(∀p:Nat,i+1+b.length<=p->rd z (p:Int)=0)->Ev (λk=>Bm.l0 k b z a (a.length:Int) ((i+1:Nat):Int)) (dg N))
 (d:Nat) : ∀(j:Nat) (z:List Int) (c:Int),j+d=b.length->z.length=a.length+b.length->Ws z->U c->nv z+Wp (i+j)*c=nv (a.take i)*nv b+Wp i*(rd a (i:Int)*nv (b.take j))->(∀p:Nat,i+b.length<=p->rd z (p:Int)=0) ->
 Ev (λk=>Bm.l1 k b z (i:Int) (rd a (i:Int)) c a (a.length:Int) (i:Int) b (b.length:Int) j) (dg N):=by
 have hx:=Hl ha.1 (i:Int);induction d with
 | zero =>
   intro j z c hj hz tW hc he h0;have HE:=Hd.mk he;clear he;have e:wrap64 ((i:Int)+(b.length:Int))=((i+b.length:Nat):Int):=(by rw[AE (by omega) (by omega)];omega);have e2:wrap64 ((i:Int)+1)=((i+1:Nat):Int):=(by rw[AE (by omega) (by omega)];omega);refine Ev.step (λk=>Bm.l1.eq_2 ..) ?_;rw[e,e2];refine Ev.AO (by omega) (Ev.AI (by omega) (Ev.AI (by omega) ?_));rw[APr];refine next _ (by simp;omega) (Yb tW _ hc) ?_ ?_
   · rw[VU _ _ _ (by omega),h0 _ (AP1 _),Bo hi]
     have ej:j=b.length:=(by omega);have he:=HE.out;rw[ej,AP5 (AP1 _)] at he;rw[Int.sub_zero,he,ARY,AQT]
   · intro p hp
     rw[JS (by omega),h0 p (by omega)]
 | succ d ih =>
   intro j z c hj hz tW hc he h0;have HE:=Hd.mk he;clear he;have hy:=Hl hb.1 (j:Int);have hs:=Hl tW ((i+j:Nat):Int);have e:wrap64 ((i:Int)+(j:Int))=((i+j:Nat):Int):=(by rw[AE (by omega) (by omega)];omega);have e2:wrap64 ((j:Int)+1)=((j+1:Nat):Int):=(by rw[AE (by omega) (by omega)];omega);refine Ev.step (λk=>Bm.l1.eq_2 ..) ?_;rw[e,e2];refine Ev.AI (by omega) (Ev.AI (by omega) (Ev.AI (by omega) (Ev.AZ (JD hx hy) (Ev.AI (by omega) (Ev.AI (by omega) ?_)))));generalize hP:rd a (i:Int)*rd b (j:Int)=P;have AOs:U (P%18446744073709551616):=(by unfold U;omega);refine Ev.AZ (Pm hs AOs hc) ?_;dsimp only;rw[APr];generalize hS:rd z ((i+j:Nat):Int)=S at *;unfold U at hx hc hs hy;have hP0:0<=P:=(by rw[<-hP];exact AP7 hx.1 hy.1);have hbd:=tV (B:=18446744073709551616) (x:=rd a (i:Int)) (y:=rd b (j:Int)) (s:=S) (c:=c) (hi:=P/18446744073709551616) (lo:=P%18446744073709551616) (v:=(S+P%18446744073709551616+c)%18446744073709551616) (ov:=(S+P%18446744073709551616+c)/18446744073709551616) (by omega) hx.1 hx.2 hy.1 hy.2 hs.1 hs.2 hc.1 hc.2 (by omega) (by omega) (by omega) (by omega);rw[DY (by omega) (by omega)];refine ih (j+1) _ _ (by omega) (by simp;omega) (Yb tW _ (by unfold U;omega)) (by unfold U;omega) ?_ ?_
   · have he:=HE.out
     have hq:S+P+c=18446744073709551616*(P/18446744073709551616+(S+P%18446744073709551616+c)/18446744073709551616)+(S+P%18446744073709551616+c)%18446744073709551616:=(by omega);rw[VU _ _ _ (by omega),hS,Bo (by omega),<-ARU,DV];generalize P/18446744073709551616+(S+P%18446744073709551616+c)/18446744073709551616=q at *;generalize (S+P%18446744073709551616+c)%18446744073709551616=r at *;have hc':c=18446744073709551616*q+r-P-S:=(by omega);rw[hc',<-hP] at he;have hWa:=R5 i j
     grind
   · intro p hp
     rw[JS (by omega),h0 p hp]
theorem ox {a b:List Int} (ha:Wl a) (hb:Wl b) (hab:a.length+b.length<=1000000000) (d:Nat) : ∀(i:Nat) (z:List Int),i+d=a.length->z.length=a.length+b.length->Ws z->nv z=nv (a.take i)*nv b->(∀p:Nat,i+b.length<=p->rd z (p:Int)=0) ->
 Ev (λk=>Bm.l0 k b z a (a.length:Int) i) (dg (nv a*nv b)):=by
 induction d with
 | zero =>
   intro i z hi hz tW he h0;refine Ev.step (λk=>Bm.l0.eq_2 ..) ?_;refine Ev.AO (by omega) ?_;rw[AP5 (by omega)] at he;rw[<-he];exact Ev.bind (Cz ⟨tW,by omega⟩) (Ev.same rfl)
 | succ d ih =>
   intro i z hi hz tW he h0;refine Ev.step (λk=>Bm.l0.eq_2 ..) ?_;refine Ev.AI (by omega) (Ev.AI (by omega) (Ev.AI (by omega) ?_));exact ow ha hb hab (by omega) (λz h1 h2 h3 h4=>ih (i+1) z (by omega) h1 h2 h3 h4) b.length 0 z 0 (by omega) hz tW (by unfold U;omega) (by simp[nv];omega) h0
theorem ZK {a b:List Int} (ha:Wl a) (hb:Wl b) (hab:a.length+b.length<=1000000000):Ev (λk=>Bm.f k a b) (dg (nv a*nv b)):=by
 have e:wrap64 ((a.length:Int)+(b.length:Int))=((a.length+b.length:Nat):Int):=by rw[AE (by omega) (by omega)];omega
 unfold Bm.f;rw[e,APr];refine Ev.AI (by omega) (Ev.AI (by omega) ?_);exact ox ha hb hab a.length 0 _ (by omega) (by simp) (W8 _) (by rw[R6,AR8];simp[nv]) (λp _=>tU _ p)
theorem UY {a:List Int} (ha:Wl a) (m:Nat):Ev (λk=>Ez.f k a 0 (m:Int)) (dg (nv (a.take m))):=by
 have hal:=ha.2;have e0:mn (0:Int) (a.length:Int)=0:=by unfold mn;split<;>omega
 have e1:mn (m:Int) (a.length:Int)=((min m a.length:Nat):Int):=by unfold mn;split<;>omega
 unfold Ez.f;rw[e0,e1];refine Ev.AI (by omega) (Ev.AI (by omega) (Ev.AI (by omega) ?_));have e2:(a.take ((min m a.length:Nat):Int).toNat).drop (0:Int).toNat=a.take m:=by
  rw[APr];show List.drop 0 _=_;rw[ARh,List.take_eq_take_iff];omega
 rw[e2];exact Ev.bind (Cz ⟨EM ha.1 m,by rw[APx];omega⟩) (Ev.same rfl)
theorem R7 {a:List Int} (ha:Wl a) (m:Nat):Ev (λk=>Ez.f k a (m:Int) (a.length:Int)) (dg (nv (a.drop m))):=by
 have hal:=ha.2;have e0:mn (a.length:Int) (a.length:Int)=a.length:=by unfold mn;split<;>omega
 have e1:mn (m:Int) (a.length:Int)=((min m a.length:Nat):Int):=by unfold mn;split<;>omega
 unfold Ez.f;rw[e0,e1];refine Ev.AI (by omega) (Ev.AI (by omega) (Ev.AI (by omega) ?_));have e2:(a.take (a.length:Int).toNat).drop ((min m a.length:Nat):Int).toNat=a.drop m:=by
  rw[APr,APr,AQ3];rcases ATH m a.length with h | h
  · rw[AQB h]
  · rw[Nat.min_eq_right h,AQN (AP1 _),AQN h]
 rw[e2];exact Ev.bind (Cz ⟨NI ha.1 m,by rw[AQR];omega⟩) (Ev.same rfl)
theorem oy {a:List Int} (ha:Wl a) {m:Nat} (hm:a.length+m<=1000000000):Ev (λk=>EW.f k a (m:Int)) (dg (nv a*Wp m)):=by
 unfold EW.f;rw[APr];refine Ev.AI (by omega) (Ev.AI (by omega) (Ev.AZ rfl (Ev.AI (by simp;omega) ?_)));have hv:nv a*Wp m=nv (List.replicate m 0++a):=by rw[fG,R6,AQ8,ASZ,AP6]
 rw[hv];exact Ev.bind (Cz ⟨RU.2 ⟨W8 _,ha.1⟩,by simp;omega⟩) (Ev.same rfl)
theorem AA7 {l:List Int} (h:Ws l):(dg (nv l)).length<=l.length:=L8 (K8 h)
theorem AA8 {m:Nat} (hm:m<=100000000) {a0 a1 b0 b1:Int} (na0:0<=a0) (na1:0<=a1) (nb0:0<=b0) (nb1:0<=b1) (ba0:bl a0<=64*m) (ba1:bl a1<=64*m) (bb0:bl b0<=64*m) (bb1:bl b1<=64*m)
 {M:Nat->List Int->List Int->Option (List Int)} (ih : ∀x y:Int,0<=x->0<=y->bl x<=64*(m+1)->bl y<=64*(m+1)->Ev (λk=>M k (dg x) (dg y)) (dg (x*y))) :
 Ev (λk=>(M k (dg a0) (dg b0)).bind λALi=>((M k (dg a1) (dg b1)).bind λALj=>((BQ.f k (dg a0) (dg a1)).bind λAOt=>((BQ.f k (dg b0) (dg b1)).bind λAOu=>((M k AOt AOu).bind λAOv=>((BQ.f k ALi ALj).bind λAOw=>((DU.f k AOv AOw).bind λALk=>((EW.f k ALk.1 (m:Int)).bind λAOx=>((EW.f k ALj ((2*m:Nat):Int)).bind λAOy=>((BQ.f k AOx AOy).bind λAOz=>((BQ.f k ALi AOz).bind λxH=>(some xH))))))))))))
  (dg ((a0+Wp m*a1)*(b0+Wp m*b1))):=by
 have q : ∀x:Int,0<=x->bl x<=30000000000->Wl (dg x)/\nv (dg x)=x/\(dg x).length<=900000000/\((dg x).length:Int)<=(bl x+63)/64:=λx h h2=>⟨BO (by omega),AY h,by have:=AQ x;omega,AQ x⟩
 have add : ∀x y:Int,0<=x->0<=y->bl x<=30000000000->bl y<=30000000000->Ev (λk=>BQ.f k (dg x) (dg y)) (dg (x+y)):=λx y h1 h2 h3 h4=>by
  obtain⟨q1,q2,q3,_⟩:=q x h1 h3;obtain⟨r1,r2,r3,_⟩:=q y h2 h4;have:=YN q1 r1 (by omega) (by omega)
  rwa [q2,r2] at this
 have above : ∀(x:Int) (n:Nat),0<=x->bl x<=30000000000->n<=200000000->Ev (λk=>EW.f k (dg x) (n:Int)) (dg (x*Wp n)):=λx n h1 h2 h3=>by
  obtain⟨q1,q2,_,q4⟩:=q x h1 h2;have:=oy q1 (m:=n) (by omega)
  rwa [q2] at this
 have bs:=YG na0 na1 (m:=64*m) ba0 ba1;have bt:=YG nb0 nb1 (m:=64*m) bb0 bb1;have n0:0<=a0*b0:=AP7 na0 nb0;have n1:0<=a1*b1:=AP7 na1 nb1;have nx1:0<=a0*b1:=AP7 na0 nb1;have nx2:0<=a1*b0:=AP7 na1 nb0;have b00:=Fo na0 nb0;have b11:=Fo na1 nb1;have bst:=Fo (x:=a0+a1) (y:=b0+b1) (by omega) (by omega);have eq:(a0+a1)*(b0+b1)=a0*b0+a1*b1+(a0*b1+a1*b0):=by grind
 have e2m:Wp (2*m)=Wp m*Wp m:=by rw[<-R5];congr 1;omega
 have goal:(a0+Wp m*a1)*(b0+Wp m*b1)=a0*b0+((a0*b1+a1*b0)*Wp m+a1*b1*Wp (2*m)):=by rw[e2m];grind
 have hW:=FF m;have hW2:=FF (2*m);have bW:bl (Wp m)<=64*m+1:=by
  have:=CA (x:=Wp m) (n:=64*m+1) (by rw[Gp,AQH];have:=pow_pos (64*m);omega);omega
 have bW2:bl (Wp (2*m))<=128*m+1:=by
  have:=CA (x:=Wp (2*m)) (n:=64*(2*m)+1) (by rw[Gp,AQH];have:=pow_pos (64*(2*m));omega);omega
 rw[goal];clear goal e2m;have M0:=ih a0 b0 na0 nb0 (by omega) (by omega);have M1:=ih a1 b1 na1 nb1 (by omega) (by omega);have M2:=ih (a0+a1) (b0+b1) (by omega) (by omega) (by omega) (by omega);rw[eq] at M2 bst;clear eq ih;have A1:=add a0 a1 na0 na1 (by omega) (by omega);have A2:=add b0 b1 nb0 nb1 (by omega) (by omega);generalize a0*b0=x0 at *;generalize a1*b1=x1 at *;generalize hmid:a0*b1+a1*b0=x2 at *;have n2:0<=x2:=by omega
 have bs2:=YG n0 n1 (m:=128*m) (by omega) (by omega);have A3:=add x0 x1 n0 n1 (by omega) (by omega);have S1:Ev (λk=>DU.f k (dg (x0+x1+x2)) (dg (x0+x1))) (dg x2,true):=by
  obtain⟨q1,q2,_,_⟩:=q (x0+x1+x2) (by omega) (by omega);obtain⟨r1,r2,_,_⟩:=q (x0+x1) (by omega) (by omega);have:=Ya q1 r1 (by omega)
  rwa [q2,r2,show x0+x1+x2-(x0+x1)=x2 by omega] at this
 have APh:=B9 (x:=x2) (y:=x0+x1+x2) (by omega);have U1:=above x2 m n2 (by omega) (by omega);have U2:=above x1 (2*m) n1 (by omega) (by omega);have bu1:=Fo n2 (APs hW);have bu2:=Fo n1 (APs hW2);have nu1:0<=x2*Wp m:=AP7 n2 (APs hW);have nu2:0<=x1*Wp (2*m):=AP7 n1 (APs hW2);have A4:=add _ _ nu1 nu2 (by omega) (by omega);have APi:=YG nu1 nu2 (m:=256*m+100) (by omega) (by omega);have A5:=add x0 _ n0 (Int.add_nonneg nu1 nu2) (by omega) (by omega);exact Ev.bind M0 (Ev.bind M1 (Ev.bind A1 (Ev.bind A2 (Ev.bind M2 (Ev.bind A3 (Ev.bind S1 (Ev.bind U1 (Ev.bind U2 (Ev.bind A4 (Ev.bind A5 (Ev.same rfl)))))))))))
theorem Ta (a:List Int) (m:Nat):nv a=nv (a.take m)+Wp m*nv (a.drop m):=by
 have sa:=W9 a m;rcases ATH m a.length with h | h
 · rw[AQB h] at sa;exact sa
 · rw[AP5 h,AQN h];simp[nv]
theorem xW (n:Nat) : ∀a b:List Int,Wl a->Wl b->a.length<=n->b.length<=n->n<=100000000->Ev (λk=>Dp.f k a b) (dg (nv a*nv b)):=by
 induction n using Nat.strongRecOn with
 | ind n ih =>
   intro a b ha hb hla hlb hn;refine Ev.step (λk=>Dp.f.eq_2 ..) ?_;by_cases h1:(a.length:Int)<8
   · exact Ev.AI h1 (Ev.bind (ZK ha hb (by omega)) (Ev.same rfl))
   refine Ev.AO h1 ?_;by_cases h2:(b.length:Int)<8
   · exact Ev.AI h2 (Ev.bind (ZK ha hb (by omega)) (Ev.same rfl))
   refine Ev.AO h2 (Ev.bind ?_ (Ev.same rfl));obtain⟨m,hm⟩ : ∃m,m=(max a.length b.length+1)/2:=⟨_,rfl⟩;have hmn:m+1<n:=(by omega);have hma:a.length<=2*m:=(by omega);have hmb:b.length<=2*m:=(by omega);have em:wrap64 (Int.tdiv (wrap64 ((mx (a.length:Int) (b.length:Int))+1)) 2)=(m:Int):=by
    have:mx (a.length:Int) (b.length:Int)=((max a.length b.length:Nat):Int):=(by unfold mx;split<;>omega);rw[this,AE (n:=((max a.length b.length:Nat):Int)+1) (by omega) (by omega),AQd (by omega),AE (by omega) (by omega)];omega
   clear hm;have em2:wrap64 (2*(m:Int))=((2*m:Nat):Int):=(by rw[AE (by omega) (by omega)];omega);unfold JQ.f;rw[em,em2];clear em em2;have bd : ∀l:List Int,Ws l->l.length<=m->bl (nv l)<=64*m:=λl h h2=>by have:=E9 h;omega
   have go:=AA8 (m:=m) (by omega) (AN (EM ha.1 m)) (AN (NI ha.1 m)) (AN (EM hb.1 m)) (AN (NI hb.1 m))
    (bd _ (EM ha.1 m) (by rw[APx];omega)) (bd _ (NI ha.1 m) (by rw[AQR];omega)) (bd _ (EM hb.1 m) (by rw[APx];omega)) (bd _ (NI hb.1 m) (by rw[AQR];omega))
    (M:=λk=>Dp.f k) (λx y hx hy bx bY=>by
      have kx:=AQ x;have ky:=AQ y;have:=ih (m+1) hmn (dg x) (dg y) (BO (by omega)) (BO (by omega)) (by omega) (by omega) (by omega)
      rwa [AY hx,AY hy] at this)
   rw[<-Ta,<-Ta] at go;exact Ev.bind (UY ha m) (Ev.bind (R7 ha m) (Ev.bind (UY hb m) (Ev.bind (R7 hb m) go)))
theorem Po {a b:List Int} (ha:Wl a) (hb:Wl b) (hla:a.length<=100000000) (hlb:b.length<=100000000):Ev (λk=>Dp.f k a b) (dg (nv a*nv b)):=xW 100000000 a b ha hb hla hlb (by omega)
theorem Y1 {x y:Int} (hx:0<=x) (hy:0<=y) (bx:bl x<=6000000000) (bY:bl y<=6000000000):Ev (λk=>Dp.f k (dg x) (dg y)) (dg (x*y)):=by
 have kx:=AQ x;have ky:=AQ y;have:=Po (BO (n:=x) (by omega)) (BO (n:=y) (by omega)) (by omega) (by omega)
 rwa [AY hx,AY hy] at this
theorem xX : ∀(l:List Int) (p:Nat) (v:Int),p<l.length->hv (l.set p v)=hv l+Hp p*(v-rd l (p:Int))
 | [],p,v,h=>by simp at h
 | x::t,0,v,h=>by
   show v+4294967296*hv t=x+4294967296*hv t+1*(v-x);omega
 | x::t,p+1,v,h=>by
   have ih:=xX t p v (by simpa using h);have e:rd (x::t) ((p+1:Nat):Int)=rd t (p:Int):=(by unfold rd;simp);rw[ARf,Ji,Ji,ih,e,I9,ART,AQT,Int.add_assoc]
theorem AEE {l:List Int} (h:Hs l) (p:Nat) {v:Int} (h0:0<=v) (h1:v<4294967296):Hs (l.set p v):=λx hx=>by
 rcases AS2 hx with h2 | h2
 · exact h x h2
 · rw[h2];exact⟨h0,h1⟩
theorem AEF (n:Nat):Hs (List.replicate n 0):=λx hx=>by rw[AS8 hx];omega
theorem AEG (n:Nat):hv (List.replicate n 0)=0:=by
 induction n with
 | zero=>rfl
 | succ n ih=>rw[List.replicate_succ,Ji,ih];rfl
theorem AIj (a b:Nat):Hp (a+b)=Hp a*Hp b:=by unfold Hp;rw[AQK]
theorem oz {a b:List Int} (ha:Hs a) (hb:Hs b) (hab:a.length+b.length<=900000000) {i:Nat} (hi:i<a.length) {N:Int}
 (next : ∀z:List Int,z.length=a.length+b.length+1->Hs z->hv z=hv (a.take (i+1))*hv b->(∀p:Nat,i+1+b.length<=p->rd z (p:Int)=0)->Ev (λk=>CB.l0 k a b z (a.length:Int) ((i+1:Nat):Int)) (dg N))
 (d:Nat) : ∀(j:Nat) (z:List Int) (c:Int),j+d=b.length->z.length=a.length+b.length+1->Hs z->0<=c->c<4294967296->hv z+Hp (i+j)*c=hv (a.take i)*hv b+Hp i*(rd a (i:Int)*hv (b.take j))->(∀p:Nat,i+b.length<=p->rd z (p:Int)=0) ->
 Ev (λk=>CB.l1 k a b z (i:Int) c (a.length:Int) (i:Int) (b.length:Int) j) (dg N):=by
 have hx:=XC ha (i:Int);induction d with
 | zero =>
   intro j z c hj hz tW hc hc1 he h0;have HE:=Hd.mk he;clear he;have e:wrap64 ((i:Int)+(b.length:Int))=((i+b.length:Nat):Int):=(by rw[AE (by omega) (by omega)];omega);have e2:wrap64 ((i:Int)+1)=((i+1:Nat):Int):=(by rw[AE (by omega) (by omega)];omega);refine Ev.step (λk=>CB.l1.eq_2 ..) ?_;rw[e,e2];refine Ev.AO (by omega) (Ev.AI (by omega) (Ev.AI (by omega) ?_));rw[APr];refine next _ (by simp;omega) (AEE tW _ hc hc1) ?_ ?_
   · rw[xX _ _ _ (by omega),h0 _ (AP1 _),Fi]
     have ej:j=b.length:=(by omega);have he:=HE.out;rw[ej,AP5 (AP1 _)] at he;rw[Int.sub_zero,he,ARY,AQT]
   · intro p hp
     rw[JS (by omega),h0 p (by omega)]
 | succ d ih =>
   intro j z c hj hz tW hc hc1 he h0;have HE:=Hd.mk he;clear he;have hy:=XC hb (j:Int);have e:wrap64 ((i:Int)+(j:Int))=((i+j:Nat):Int):=(by rw[AE (by omega) (by omega)];rfl);have e2:wrap64 ((j:Int)+1)=((j+1:Nat):Int):=(by rw[AE (by omega) (by omega)];omega);refine Ev.step (λk=>CB.l1.eq_2 ..) ?_;rw[e,e2];have hPb:=IN (m:=4294967295) (n:=4294967295) hx.1 (AR4 hx.2) hy.1 (AR4 hy.2);have hP0:=hPb.1;have hP1:rd a (i:Int)*rd b (j:Int)<=18446744065119617025:=ARn hPb.2 (by decide);clear hPb;have hs:=XC tW ((i+j:Nat):Int);rw[APr];generalize hP:rd a (i:Int)*rd b (j:Int)=P at *;generalize hS:rd z ((i+j:Nat):Int)=S at *;have HP:=Hd.mk hP;have HS:=Hd.mk hS;clear hP hS hx hy;rw[DY (n:=P) (by omega) (by omega),DY (n:=c+P) (by omega) (by omega),DY (by omega) (by omega),UX _ (by omega) (by omega)];have hq:c+P+S=4294967296*((c+P+S)/4294967296)+(c+P+S)%4294967296:=(by omega);have hq0:0<=(c+P+S)/4294967296/\(c+P+S)/4294967296<4294967296:=(by omega);have WN:0<=(c+P+S)%4294967296/\(c+P+S)%4294967296<4294967296:=(by omega);generalize (c+P+S)/4294967296=q at *;generalize (c+P+S)%4294967296=r at *;refine Ev.AI (by omega) (Ev.AI (by omega) (Ev.AI (by omega) (Ev.AI (by omega) (Ev.AI (by omega) (Ev.AI (by omega) (Ev.AI (by omega) ?_))))));refine ih (j+1) _ _ (by omega) (by simp;omega) (AEE tW _ WN.1 WN.2) hq0.1 hq0.2 ?_ ?_
   · have he:=HE.out
     rw[xX _ _ _ (by omega),HS.out,Fi,<-ARU,I9];have hc':c=4294967296*q+r-P-S:=(by omega);rw[hc',<-HP.out] at he;have hWa:=AIj i j
     grind
   · intro p hp
     rw[JS (by omega),h0 p hp]
theorem o7 {a b:List Int} (ha:Hs a) (hb:Hs b) (hab:a.length+b.length<=900000000) (d:Nat) : ∀(i:Nat) (z:List Int),i+d=a.length->z.length=a.length+b.length+1->Hs z->hv z=hv (a.take i)*hv b->(∀p:Nat,i+b.length<=p->rd z (p:Int)=0) ->
 Ev (λk=>CB.l0 k a b z (a.length:Int) i) (dg (hv a*hv b)):=by
 induction d with
 | zero =>
   intro i z hi hz tW he h0;refine Ev.step (λk=>CB.l0.eq_2 ..) ?_;refine Ev.AO (by omega) ?_;rw[AP5 (by omega)] at he;rw[<-he];exact Ev.bind (N5 tW (by omega)) (Ev.same rfl)
 | succ d ih =>
   intro i z hi hz tW he h0;refine Ev.step (λk=>CB.l0.eq_2 ..) ?_;refine Ev.AI (by omega) ?_;exact oz ha hb hab (by omega) (λz h1 h2 h3 h4=>ih (i+1) z (by omega) h1 h2 h3 h4) b.length 0 z 0 (by omega) hz tW (by omega) (by omega) (by simp[hv];omega) h0
theorem M6 {a b:List Int} (ha:Wl a) (hb:Wl b) (hla:a.length<=100000000) (hlb:b.length<=100000000):Ev (λk=>CB.f k a b) (dg (nv a*nv b)):=by
 obtain⟨a1,a2,a3⟩:=TZ ha.1;obtain⟨b1,b2,b3⟩:=TZ hb.1;refine Ev.bind (GN ha (by omega)) (Ev.bind (GN hb (by omega)) ?_);have e:wrap64 (wrap64 (((hh a).length:Int)+((hh b).length:Int))+1)=(((hh a).length+(hh b).length+1:Nat):Int):=by
  rw[AE (n:=((hh a).length:Int)+((hh b).length:Int)) (by omega) (by omega),AE (by omega) (by omega)];omega
 rw[e,APr,<-a2,<-b2];refine Ev.AI (by omega) (Ev.AI (by omega) ?_);exact o7 a1 b1 (by omega) (hh a).length 0 _ (by omega) (by simp) (AEF _) (by rw[AEG,AR8];simp[hv]) (λp _=>tU _ p)
theorem tX {a:List Int} (ha:Wl a) {d:Int} (zD:0<d) (hd:d<18446744073709551616) (n:Nat) : ∀(Q:List Int) (R:Int),n+Q.length=a.length->Ws Q->0<=R->R<d->nv (a.drop n)=nv Q*d+R-> ∀i:Int,i=(n:Int)-1 ->
 Ev (λk=>DI.l0 k a d (List.replicate n 0++Q) R i) (dg (nv a/d),nv a%d,true):=by
 have hal:=ha.2;induction n with
 | zero =>
   intro Q R hn hQ h0 h1 he i hi;refine Ev.step (λk=>DI.l0.eq_2 ..) ?_;refine Ev.AO (by omega) ?_;rw[ARh] at he;have hm:nv a/d=nv Q/\nv a%d=R:=by
    rw[he,ARa,AP6];exact⟨by rw[AQj _ _ (by omega),AQV h0 h1];omega,by rw[AQt,AQU h0 h1]⟩
   rw[hm.1,hm.2];exact Ev.bind (Cz (l:=Q) ⟨hQ,by omega⟩) (Ev.same rfl)
 | succ n ih =>
   intro Q R hn hQ h0 h1 he i hi;have ei:i=(n:Int):=(by omega);subst ei;have hx:=Hl ha.1 (n:Int);have e:wrap64 ((n:Int)-1)=(n:Int)-1:=AE (by omega) (by omega);have er:List.replicate (n+1) 0++Q=List.replicate n 0++(0:Int)::Q:=(by rw[ASg,AQ6];rfl);have es : ∀v,(List.replicate n 0++(0:Int)::Q).set (n:Int).toNat v=List.replicate n 0++v::Q:=λv=>by
    have:=XE (List.replicate n 0) 0 v Q;rw[AQ8] at this;rw[APr];exact this
   refine Ev.step (λk=>DI.l0.eq_2 ..) ?_;rw[er,e];refine Ev.AI (by omega) (Ev.AI (by omega) (Ev.AI (by omega) (Ev.bind (VL h0 h1 hd hx) (Ev.AI (by rw[AP3,AQ8,AQW];omega) ?_))));dsimp only;rw[es];have hD:=AP9 (R*18446744073709551616+rd a (n:Int)) d;have hm0:=AQJ (R*18446744073709551616+rd a (n:Int)) (show d≠0 by omega);have hm1:=AQG (R*18446744073709551616+rd a (n:Int)) zD;have hq0:0<=(R*18446744073709551616+rd a (n:Int))/d:=AQC (by have:=hx.1;omega) (by omega);have hq1:(R*18446744073709551616+rd a (n:Int))/d<18446744073709551616:=by
    rw[AQL zD];have:=hx.2;have h2:(R+1)*18446744073709551616<=d*18446744073709551616:=AP2 (by omega) (by omega);omega
   generalize (R*18446744073709551616+rd a (n:Int))/d=q at *;generalize (R*18446744073709551616+rd a (n:Int))%d=r at *;refine ih (q::Q) r (by rw[AQW];omega) (Gq.2 ⟨⟨hq0,hq1⟩,hQ⟩) hm0 hm1 ?_ _ rfl;rw[I8 (by omega),Cb,Cb,he];generalize rd a (n:Int)=x at *
   grind
theorem ZL {a:List Int} (ha:Wl a) {d:Int} (zD:0<d) (hd:d<18446744073709551616):Ev (λk=>DI.f k a d) (dg (nv a/d),nv a%d,true):=by
 have hal:=ha.2;refine Ev.AO (by omega) (Ev.AI (by omega) (Ev.AI (by rw[APr];omega) ?_));have:=tX ha zD hd a.length [] 0 (by simp) GI (by omega) zD (by rw[AQN (AP1 _)];simp[nv]) (wrap64 ((a.length:Int)-1)) (AE (by omega) (by omega));rw[ARC] at this;rw[APr];exact this
theorem tY {z0 d:List Int} (hd:Wl d) {j:Nat} {qh:Int} (hq:U qh) (hj:j+d.length<z0.length) (uk:z0.length<=1000000000) (e:Nat) : ∀(i:Nat) (z:List Int) (c b:Int),i+e=d.length->z.length=z0.length->Ws z->U c->0<=b->b<=1->nv z-Wp (j+i)*(c+b)=nv z0-Wp j*(qh*nv (d.take i))->(∀p:Nat,j+d.length<p->rd z (p:Int)=rd z0 (p:Int)) ->
 ∃(z':List Int) (b':Int),Ev (λk=>Cm.l0 k z d (j:Int) qh c b d (d.length:Int) i) (b' !=0,z')/\z'.length=z0.length/\Ws z'/\0<=b'/\b'<=1/\nv z'=nv z0-Wp j*(qh*nv d)+Wp (j+d.length+1)*b'/\(∀p:Nat,j+d.length<p->rd z' (p:Int)=rd z0 (p:Int)):=by
 induction e with
 | zero =>
   intro i z c b hi hz hw hc hb0 gp he ha;have HE:=Hd.mk he;clear he;have ei:i=d.length:=(by omega);have ew:wrap64 ((j:Int)+(d.length:Int))=((j+d.length:Nat):Int):=(by rw[AE (by omega) (by omega)];omega);have hx:=Hl hw ((j+d.length:Nat):Int);have S:=MM hx hc (c:=b) (by unfold U;omega);have hval:nv (z.set (j+d.length) ((rd z ((j+d.length:Nat):Int)-c-b)%18446744073709551616))=nv z0-Wp j*(qh*nv d)+Wp (j+d.length+1)*(-((rd z ((j+d.length:Nat):Int)-c-b)/18446744073709551616)):=by
    have he:=HE.out;rw[ei,AQ3] at he;rw[VU _ _ _ (by omega),DV];generalize rd z ((j+d.length:Nat):Int)=x at *;have hs:x-c-b=18446744073709551616*((x-c-b)/18446744073709551616)+(x-c-b)%18446744073709551616:=(by omega);generalize (x-c-b)/18446744073709551616=q at *;generalize (x-c-b)%18446744073709551616=r at *;have hx':x=18446744073709551616*q+r+c+b:=(by omega);rw[hx']
    grind
   refine⟨z.set (j+d.length) ((rd z ((j+d.length:Nat):Int)-c-b)%18446744073709551616),-((rd z ((j+d.length:Nat):Int)-c-b)/18446744073709551616), ?_,by rw[AQb,hz],Yb hw _ ?_, ?_, ?_,hval, ?_⟩
   · refine Ev.step (λk=>Cm.l0.eq_2 ..) ?_
     rw[ew];refine Ev.AO (by omega) (Ev.AI (by omega) (Ev.AI (by omega) (Ev.AZ S (Ev.same ?_))));rw[APr]
   · unfold U;omega
   · unfold U at hx hc;omega
   · unfold U at hx hc;omega
   · intro p hp
     rw[JS (by omega)];exact ha p hp
 | succ e ih =>
   intro i z c b hi hz hw hc hb0 gp he ha;have HE:=Hd.mk he;clear he;have ew:wrap64 ((j:Int)+(i:Int))=((j+i:Nat):Int):=(by rw[AE (by omega) (by omega)];omega);have ew2:wrap64 ((i:Int)+1)=((i+1:Nat):Int):=(by rw[AE (by omega) (by omega)];omega);have hx:=Hl hw ((j+i:Nat):Int);have hy:=Hl hd.1 (i:Int);have M:=JD hy hq;have hP0:0<=rd d (i:Int)*qh:=AP7 hy.1 hq.1;generalize hP:rd d (i:Int)*qh=P at *;have hlo:U (P%18446744073709551616):=(by clear hP;unfold U;omega);have A:=Pm hlo hc (c:=0) (by unfold U;omega);have hbd:P/18446744073709551616+(P%18446744073709551616+c+0)/18446744073709551616<18446744073709551616 :=
    tV (B:=18446744073709551616) (x:=rd d (i:Int)) (y:=qh) (s:=0) (c:=c) (hi:=P/18446744073709551616) (lo:=P%18446744073709551616) (v:=(P%18446744073709551616+c+0)%18446744073709551616) (ov:=(P%18446744073709551616+c+0)/18446744073709551616) (by omega) hy.1 hy.2 hq.1 hq.2 (by omega) (by omega) hc.1 hc.2 (by rw[hP];clear hP;omega) (by clear hP;omega) (by clear hP;omega) (by clear hP;omega)
   have HP:=Hd.mk hP;clear hP;have hs1:U ((P%18446744073709551616+c+0)%18446744073709551616):=(by unfold U;omega);have hc1:U (P/18446744073709551616+(P%18446744073709551616+c+0)/18446744073709551616):=(by unfold U at hc ⊢;omega);have hcs:P+c=18446744073709551616*(P/18446744073709551616+(P%18446744073709551616+c+0)/18446744073709551616)+(P%18446744073709551616+c+0)%18446744073709551616:=(by omega);have S:=MM hx hs1 (c:=b) (by unfold U;omega);refine(?_ : ∃(z':List Int) (b':Int),_);have ewu:IntKind.u64.wrap (P/18446744073709551616+(P%18446744073709551616+c+0)/18446744073709551616)=P/18446744073709551616+(P%18446744073709551616+c+0)/18446744073709551616:=DY hc1.1 hc1.2;have st : ∀ {r:Bool × List Int},Ev (λk=>Cm.l0 k (z.set (j+i) ((rd z ((j+i:Nat):Int)-(P%18446744073709551616+c+0)%18446744073709551616-b)%18446744073709551616)) d (j:Int) qh (P/18446744073709551616+(P%18446744073709551616+c+0)/18446744073709551616) (-((rd z ((j+i:Nat):Int)-(P%18446744073709551616+c+0)%18446744073709551616-b)/18446744073709551616)) d (d.length:Int) ((i+1:Nat):Int)) r->Ev (λk=>Cm.l0 k z d (j:Int) qh c b d (d.length:Int) i) r:=by
    intro r h;refine Ev.step (λk=>Cm.l0.eq_2 ..) ?_;rw[ew,ew2];refine Ev.AI (by omega) (Ev.AI (by omega) (Ev.AI (by omega) (Ev.AZ M (Ev.AZ A (Ev.AI (by omega) (Ev.AI (by omega) (Ev.AZ S ?_)))))));dsimp only;rw[APr,ewu];exact h
   generalize P/18446744073709551616+(P%18446744073709551616+c+0)/18446744073709551616=c' at *;generalize (P%18446744073709551616+c+0)%18446744073709551616=s at *;clear M A S ew ew2 ewu hbd hlo;have hxs:rd z ((j+i:Nat):Int)-s-b=18446744073709551616*((rd z ((j+i:Nat):Int)-s-b)/18446744073709551616)+(rd z ((j+i:Nat):Int)-s-b)%18446744073709551616:=(by omega);obtain⟨z',b',h1,h2,h3,h4,h5,h6,h7⟩:=ih (i+1) _ c' (-((rd z ((j+i:Nat):Int)-s-b)/18446744073709551616)) (by omega) (by rw[AQb,hz]) (Yb (p:=j+i) (v:=(rd z ((j+i:Nat):Int)-s-b)%18446744073709551616) hw (by unfold U;omega)) hc1 (by unfold U at hx hs1;omega) (by unfold U at hx hs1;omega) (by
    have he:=HE.out;have hp:=HP.out;rw[VU _ _ _ (by omega),Bo (by omega),<-ARU,DV];have hw2:=R5 j i;generalize rd z ((j+i:Nat):Int)=x at *;generalize rd d (i:Int)=y at *;generalize (x-s-b)/18446744073709551616=q at *;generalize (x-s-b)%18446744073709551616=r at *;have hx':x=18446744073709551616*q+r+s+b:=(by omega);have hs':s=y*qh+c-18446744073709551616*c':=(by omega);rw[hx',hs']
    grind) (λp hp=>by rw[JS (by omega)];exact ha p hp)
   exact⟨z',b',st h1,h2,h3,h4,h5,h6,h7⟩
theorem tZ {z0 d:List Int} (hz:Ws z0) (hd:Wl d) {j:Nat} {qh:Int} (hq:U qh) (hj:j+d.length<z0.length) (uk:z0.length<=1000000000) :
 ∃(z':List Int) (b':Int),Ev (λk=>Cm.f k z0 d (j:Int) qh) (b' !=0,z')/\z'.length=z0.length/\Ws z'/\0<=b'/\b'<=1/\nv z'=nv z0-Wp j*(qh*nv d)+Wp (j+d.length+1)*b'/\(∀p:Nat,j+d.length<p->rd z' (p:Int)=rd z0 (p:Int)) :=
 tY hd hq hj uk d.length 0 z0 0 0 (by omega) rfl hz (by unfold U;omega) (by omega) (by omega) (by simp[nv]) (λ_ _=>rfl)
theorem td {z0 d:List Int} (hd:Wl d) {j:Nat} (hj:j+d.length<z0.length) (uk:z0.length<=1000000000) (e:Nat) : ∀(i:Nat) (z:List Int) (c:Int),i+e=d.length->z.length=z0.length->Ws z->0<=c->c<=1->nv z+Wp (j+i)*c=nv z0+Wp j*nv (d.take i)->(∀p:Nat,j+d.length<p->rd z (p:Int)=rd z0 (p:Int)) ->
 ∃(z':List Int) (o:Int),Ev (λk=>Cv.l0 k z d (j:Int) c d (d.length:Int) i) z'/\z'.length=z0.length/\Ws z'/\0<=o/\o<=1/\nv z'=nv z0+Wp j*nv d-Wp (j+d.length+1)*o/\(∀p:Nat,j+d.length<p->rd z' (p:Int)=rd z0 (p:Int)):=by
 induction e with
 | zero =>
   intro i z c hi hz hw hc hc1 he ha;have HE:=Hd.mk he;clear he;have ei:i=d.length:=(by omega);have ew:wrap64 ((j:Int)+(d.length:Int))=((j+d.length:Nat):Int):=(by rw[AE (by omega) (by omega)];omega);have hx:=Hl hw ((j+d.length:Nat):Int);have hval:nv (z.set (j+d.length) ((rd z ((j+d.length:Nat):Int)+c)%18446744073709551616))=nv z0+Wp j*nv d-Wp (j+d.length+1)*((rd z ((j+d.length:Nat):Int)+c)/18446744073709551616):=by
    have he:=HE.out;rw[ei,AQ3] at he;rw[VU _ _ _ (by omega),DV];generalize rd z ((j+d.length:Nat):Int)=x at *;have hs:x+c=18446744073709551616*((x+c)/18446744073709551616)+(x+c)%18446744073709551616:=(by omega);generalize (x+c)/18446744073709551616=q at *;generalize (x+c)%18446744073709551616=r at *;have hx':x=18446744073709551616*q+r-c:=(by omega);rw[hx']
    grind
   refine⟨z.set (j+d.length) ((rd z ((j+d.length:Nat):Int)+c)%18446744073709551616),(rd z ((j+d.length:Nat):Int)+c)/18446744073709551616, ?_,by rw[AQb,hz],Yb hw _ ?_, ?_, ?_,hval, ?_⟩
   · refine Ev.step (λk=>Cv.l0.eq_2 ..) ?_
     rw[ew];refine Ev.AO (by omega) (Ev.AI (by omega) (Ev.AI (by omega) (Ev.same ?_)));rw[APr,wu]
   · unfold U;omega
   · unfold U at hx;omega
   · unfold U at hx;omega
   · intro p hp
     rw[JS (by omega)];exact ha p hp
 | succ e ih =>
   intro i z c hi hz hw hc hc1 he ha;have HE:=Hd.mk he;clear he;have ew:wrap64 ((j:Int)+(i:Int))=((j+i:Nat):Int):=(by rw[AE (by omega) (by omega)];omega);have ew2:wrap64 ((i:Int)+1)=((i+1:Nat):Int):=(by rw[AE (by omega) (by omega)];omega);have hx:=Hl hw ((j+i:Nat):Int);have hy:=Hl hd.1 (i:Int);have A:=Pm hx hy (c:=c) (by unfold U;omega);have st : ∀ {r:List Int},Ev (λk=>Cv.l0 k (z.set (j+i) ((rd z ((j+i:Nat):Int)+rd d (i:Int)+c)%18446744073709551616)) d (j:Int) ((rd z ((j+i:Nat):Int)+rd d (i:Int)+c)/18446744073709551616) d (d.length:Int) ((i+1:Nat):Int)) r->Ev (λk=>Cv.l0 k z d (j:Int) c d (d.length:Int) i) r:=by
    intro r h;refine Ev.step (λk=>Cv.l0.eq_2 ..) ?_;rw[ew,ew2];refine Ev.AI (by omega) (Ev.AI (by omega) (Ev.AI (by omega) (Ev.AI (by omega) (Ev.AI (by omega) (Ev.AZ A ?_)))));dsimp only;rw[APr];exact h
   clear A ew ew2;obtain⟨z',b',h1,h2,h3,h4,h5,h6,h7⟩:=ih (i+1) _ ((rd z ((j+i:Nat):Int)+rd d (i:Int)+c)/18446744073709551616) (by omega) (by rw[AQb,hz]) (Yb (p:=j+i) (v:=(rd z ((j+i:Nat):Int)+rd d (i:Int)+c)%18446744073709551616) hw (by unfold U;omega))
    (by have:=hx.1;have:=hy.1;generalize rd z ((j+i:Nat):Int)=x at *;generalize rd d (i:Int)=y at *;omega) (by have:=hx.2;have:=hy.2;generalize rd z ((j+i:Nat):Int)=x at *;generalize rd d (i:Int)=y at *;omega) (by
      have he:=HE.out;rw[VU _ _ _ (by omega),Bo (by omega),<-ARU,DV];have hw2:=R5 j i;generalize rd z ((j+i:Nat):Int)=x at *;generalize rd d (i:Int)=y at *;have hq:x+y+c=18446744073709551616*((x+y+c)/18446744073709551616)+(x+y+c)%18446744073709551616:=(by omega);generalize (x+y+c)/18446744073709551616=q at *;generalize (x+y+c)%18446744073709551616=r at *;have hc':c=18446744073709551616*q+r-x-y:=(by omega);rw[hc'] at he
      grind) (λp hp=>by rw[JS (by omega)];exact ha p hp)
   exact⟨z',b',st h1,h2,h3,h4,h5,h6,h7⟩
theorem th {z0 d:List Int} (hz:Ws z0) (hd:Wl d) {j:Nat} (hj:j+d.length<z0.length) (uk:z0.length<=1000000000) :
 ∃(z':List Int) (o:Int),Ev (λk=>Cv.f k z0 d (j:Int)) z'/\z'.length=z0.length/\Ws z'/\0<=o/\o<=1/\nv z'=nv z0+Wp j*nv d-Wp (j+d.length+1)*o/\(∀p:Nat,j+d.length<p->rd z' (p:Int)=rd z0 (p:Int)) :=
 td hd hj uk d.length 0 z0 0 (by omega) rfl hz (by omega) (by omega) (by simp[nv]) (λ_ _=>rfl)
theorem R8 {t r1 r2 v1 v2:Int} (ht:U t) (hr1:U r1) (qF:U r2) (hv1:U v1) (tj:U v2) {x:Int} (hx:U x) (hle:x*v1<=t*18446744073709551616+r1) :
 (x*v2<=(t*18446744073709551616+r1-x*v1)*18446744073709551616+r2->Ev (λk=>BI.l0 k x t r1 r2 v1 v2) x) /\
 (¬x*v2<=(t*18446744073709551616+r1-x*v1)*18446744073709551616+r2-> ∀y:Int,Ev (λk=>BI.l0 k (x-1) t r1 r2 v1 v2) y->Ev (λk=>BI.l0 k x t r1 r2 v1 v2) y):=by
 have M1:=JD hx hv1;have M2:=JD hx tj;have p0:0<=x*v1:=AP7 hx.1 hv1.1;have q0:0<=x*v2:=AP7 hx.1 tj.1;have q1:=IN (m:=18446744073709551615) (n:=18446744073709551615) hx.1 (AR4 hx.2) tj.1 (AR4 tj.2);have q2:x*v2<=340282366920938463426481119284349108225:=ARn q1.2 (by decide);clear q1;have x0:x=0->x*v2=0:=λh=>by rw[h,ARD]
 generalize x*v1=P at *;generalize x*v2=Q at *;have S1:=MM hr1 (b:=P%18446744073709551616) (by unfold U;omega) (c:=0) (by unfold U;omega);have hb:U (-((r1-P%18446744073709551616-0)/18446744073709551616)):=by unfold U at *;omega
 have S2:=MM ht (b:=P/18446744073709551616) (by unfold U at *;omega) hb;unfold U at ht hr1 qF;have e1:(r1-P%18446744073709551616-0)%18446744073709551616=(t*18446744073709551616+r1-P)%18446744073709551616:=by omega
 have e2:(t-P/18446744073709551616 - -((r1-P%18446744073709551616-0)/18446744073709551616))%18446744073709551616=(t*18446744073709551616+r1-P)/18446744073709551616:=by omega
 have APj:0<=t*18446744073709551616+r1-P:=by omega
 rw[e1] at S1;rw[e2] at S2;clear e1 e2 hb;generalize t*18446744073709551616+r1-P=m at *;have go : ∀y:Int,(Q<=m*18446744073709551616+r2->y=x)->(¬Q<=m*18446744073709551616+r2->Ev (λk=>BI.l0 k (IntKind.u64.wrap (x-1)) t r1 r2 v1 v2) y)->Ev (λk=>BI.l0 k x t r1 r2 v1 v2) y:=by
  intro y yes no;refine Ev.step (λk=>BI.l0.eq_2 ..) ?_;refine Ev.AZ M1 (Ev.AZ S1 (Ev.AZ S2 (Ev.AZ M2 ?_)));dsimp only;by_cases c1:m/18446744073709551616=0
  · refine Ev.AI c1 ?_
    by_cases c2:Q/18446744073709551616<m%18446744073709551616
    · exact Ev.AI c2 (Ev.same (by rw[yes (by omega)]))
    · refine Ev.AO c2 ?_
      by_cases c3:Q/18446744073709551616=m%18446744073709551616
      · refine Ev.AI c3 ?_
        by_cases c4:Q%18446744073709551616<=r2
        · exact Ev.AI c4 (Ev.same (by rw[yes (by omega)]))
        · exact Ev.AO c4 (no (by omega))
      · exact Ev.AO c3 (no (by omega))
  · exact Ev.AO c1 (Ev.same (by rw[yes (by omega)]))
 refine⟨λh=>go x (λ_=>rfl) (λh2=>absurd h h2),λh y hy=>go y (λh2=>absurd h2 h) (λ_=> ?_)⟩;have hx1:1<=x:=by
  rcases(show x=0\/1<=x by have:=hx.1;omega) with h0 | h0
  · exfalso
    have:=x0 h0;omega
  · exact h0
 rw[DY (by omega) (by have:=hx.2;omega)];exact hy
theorem R9 {t r1 r2 v1 v2:Int} (ht:U t) (hr1:U r1) (qF:U r2) (hv1:U v1) (tj:U v2) (n:Nat) : ∀x:Int,x.toNat<=n->U x->x*v1<=t*18446744073709551616+r1 ->
 ∃y:Int,Ev (λk=>BI.l0 k x t r1 r2 v1 v2) y/\0<=y/\y<=x/\y*(v1*18446744073709551616+v2)<=(t*18446744073709551616+r1)*18446744073709551616+r2/\(y=x\/(t*18446744073709551616+r1)*18446744073709551616+r2<(y+1)*(v1*18446744073709551616+v2)):=by
 have T0:0<=t*18446744073709551616+r1:=by have:=ht.1;have:=hr1.1;omega
 have key : ∀x:Int,x*(v1*18446744073709551616+v2)=x*v1*18446744073709551616+x*v2:=λx=>by grind
 induction n with
 | zero =>
   intro x hn hx hle;have h0:x=0:=(by have:=hx.1;omega);have h:=(R8 ht hr1 qF hv1 tj hx hle).1 (by rw[h0,ARD,ARD];have:=qF.1;omega);exact⟨x,h,hx.1,ASp _,by rw[h0,ARD];have:=qF.1;omega, .inl rfl⟩
 | succ n ih =>
   intro x hn hx hle;obtain⟨s1,s2⟩:=R8 ht hr1 qF hv1 tj hx hle;have hk:=key x;by_cases h:x*v2<=(t*18446744073709551616+r1-x*v1)*18446744073709551616+r2
   · exact⟨x,s1 h,hx.1,ASp _,by rw[hk];omega, .inl rfl⟩
   · have x0:x=0->x*v2=0/\x*v1=0:=λh=>by rw[h,ARD,ARD];exact⟨rfl,rfl⟩
     have hx1:1<=x:=by
      rcases(show x=0\/1<=x by have:=hx.1;omega) with h0 | h0
      · exfalso
        have:=x0 h0;have:=qF.1;omega
      · exact h0
     have hm:(x-1)*v1=x*v1-v1:=(by rw[ATJ,ARL]);obtain⟨y,h1,h2,h3,h4,h5⟩:=ih (x-1) (by omega) ⟨by omega,by have:=hx.2;omega⟩ (by rw[hm];have:=hv1.1;omega);refine⟨y,s2 h y h1,h2,by omega,h4, .inr ?_⟩;rcases h5 with h5 | h5
     · rw[h5,Int.sub_add_cancel,hk];omega
     · exact h5
theorem o8 {z:List Int} (hz:Ws z) (hl:z.length<=1000000000) {p:Nat} (Mo:2<=p) (hp:p<z.length) {v1 v2:Int} (hv1:U v1) (tj:U v2) (hv0:0<v1) (AA9:rd z (p:Int)<=v1) :
 ∃y:Int,Ev (λk=>Ft.f k z (p:Int) v1 v2) y/\U y /\
  y*(v1*18446744073709551616+v2)<=(rd z (p:Int)*18446744073709551616+rd z ((p-1:Nat):Int))*18446744073709551616+rd z ((p-2:Nat):Int) /\
  (y=18446744073709551615\/(rd z (p:Int)*18446744073709551616+rd z ((p-1:Nat):Int))*18446744073709551616+rd z ((p-2:Nat):Int)<(y+1)*(v1*18446744073709551616+v2)):=by
 have ht:=Hl hz (p:Int);have h1:=Hl hz ((p-1:Nat):Int);have h2:=Hl hz ((p-2:Nat):Int);have e1:wrap64 ((p:Int)-1)=((p-1:Nat):Int):=by rw[AE (by omega) (by omega)];omega
 have e2:wrap64 ((p:Int)-2)=((p-2:Nat):Int):=by rw[AE (by omega) (by omega)];omega
 have st : ∀y:Int,(rd z (p:Int)>=v1->Ev (λk=>BI.l0 k 18446744073709551615 (rd z (p:Int)) (rd z ((p-1:Nat):Int)) (rd z ((p-2:Nat):Int)) v1 v2) y) ->
  (¬rd z (p:Int)>=v1->Ev (λk=>BI.l0 k ((rd z (p:Int)*18446744073709551616+rd z ((p-1:Nat):Int))/v1) (rd z (p:Int)) (rd z ((p-1:Nat):Int)) (rd z ((p-2:Nat):Int)) v1 v2) y)->Ev (λk=>Ft.f k z (p:Int) v1 v2) y:=by
  intro y f1 f2;unfold Ft.f;rw[e1,e2];refine Ev.AI (by omega) (Ev.AI (by omega) (Ev.AI (by omega) (Ev.AI (by omega) (Ev.AI (by omega) (Ev.AI (by omega) ?_)))));by_cases h:rd z (p:Int)>=v1
  · exact Ev.AI h (Ev.bind (f1 h) (Ev.same rfl))
  · exact Ev.AO h (Ev.bind (VL ht.1 (by omega) hv1.2 h1) (Ev.bind (f2 h) (Ev.same rfl)))
 clear e1 e2;generalize rd z (p:Int)=t at *;generalize rd z ((p-1:Nat):Int)=r1 at *;generalize rd z ((p-2:Nat):Int)=r2 at *;by_cases h:t>=v1
 · have et:t=v1:=by omega
   obtain⟨y,y1,y2,y3,y4,y5⟩:=R9 ht h1 h2 hv1 tj 18446744073709551615 18446744073709551615 (by decide) (by unfold U;omega) (by have:=h1.1;omega);exact⟨y,st y (λ_=>y1) (λh2=>absurd h h2),⟨y2,by omega⟩,y4,y5⟩
 · have hx0:0<=(t*18446744073709551616+r1)/v1:=AQC (by have:=ht.1;have:=h1.1;omega) (by omega)
   have hD:=AP9 (t*18446744073709551616+r1) v1;have hm0:=AQJ (t*18446744073709551616+r1) (show v1≠0 by omega);have hm1:=AQG (t*18446744073709551616+r1) hv0;have hx1:(t*18446744073709551616+r1)/v1<18446744073709551616:=by
    rw[AQL hv0];have:=h1.2;have h3:(t+1)*18446744073709551616<=v1*18446744073709551616:=AP2 (by omega) (by omega);omega
   generalize hx:(t*18446744073709551616+r1)/v1=x at *;rw[AP6] at hD;obtain⟨y,y1,y2,y3,y4,y5⟩:=R9 ht h1 h2 hv1 tj x.toNat x (AP1 _) ⟨hx0,hx1⟩ (by omega);refine⟨y,st y (λh2=>absurd h2 h) (λ_=>y1),⟨y2,by omega⟩,y4, .inr ?_⟩;rcases y5 with y5 | y5
   · have h3:t*18446744073709551616+r1+1<=(y+1)*v1:=by rw[y5,ARY,ARL];omega
     have h4:(y+1)*(v1*18446744073709551616+v2)=(y+1)*v1*18446744073709551616+(y+1)*v2:=(by grind);have h5:0<=(y+1)*v2:=AP7 (by omega) tj.1;have:=h2.2;rw[h4];generalize (y+1)*v1=e at *;generalize (y+1)*v2=f at *;omega
   · exact y5
theorem fS : ∀ {l:List Int},Ws l->nv l=0-> ∀p:Nat,rd l (p:Int)=0
 | [],_,_,p=>by unfold rd;simp
 | x::t,h,h0,p=>by
   obtain⟨hx,ht⟩:=Gq.1 h;have hn:=AN ht;rw[Cb] at h0;have:=hx.1;cases p with
   | zero=>show x=0;omega
   | succ p =>
     have e:rd (x::t) ((p+1:Nat):Int)=rd t (p:Int):=(by unfold rd;simp);rw[e];exact fS ht (by omega) p
theorem VV : ∀ {l:List Int},(∀p:Nat,rd l (p:Int)=0)->nv l=0
 | [],_=>rfl
 | x::t,h=>by
   have h0:x=0:=h 0;have ht:nv t=0:=VV λp=>by
    have e:rd (x::t) ((p+1:Nat):Int)=rd t (p:Int):=(by unfold rd;simp);rw[<-e];exact h (p+1)
   rw[Cb,h0,ht];rfl
theorem o9 (l:List Int) (k p:Nat):rd (l.drop k) (p:Int)=rd l ((k+p:Nat):Int):=by
 unfold rd;rw[APt,APt,APr,APr,AQI]
theorem VW {l:List Int} (h:Ws l) {k:Nat} (hlt:nv l<Wp k) : ∀p:Nat,k<=p->rd l (p:Int)=0:=by
 intro p hp;have h1:=Om h k;rw[AQV (AN h) hlt] at h1;have h2:=fS (NI h k) h1.symm (p-k);rw[o9,show k+(p-k)=p by omega] at h2;exact h2
theorem tq {l:List Int} (h:Ws l) {k:Nat} (h0 : ∀p:Nat,k<=p->rd l (p:Int)=0):nv l<Wp k:=by
 have h1:nv (l.drop k)=0:=VV λp=>by rw[o9];exact h0 _ (by omega)
 have h2:=Om h k;rw[h1] at h2;have h3:=AP9 (nv l) (Wp k);have h4:=AQG (nv l) (FF k);rw[h2] at h3;omega
theorem ALl {J K D R T v low dl y:Int} (hJ:0<J) (hK:0<K) (hR:R=T*(J*K)+low) (hl0:0<=low) (hl1:low<J*K) (hD:D=v*K+dl) (zD:0<=dl) (hd1:dl<K) (hv:18446744073709551616<=v) (hy0:0<=y) (hy1:y<18446744073709551616)
 (h1:y*v<=T) (h2:y=18446744073709551615\/T<(y+1)*v) (h3:R<D*J*18446744073709551616):R<J*(D*(y+1))/\J*(D*(y-1))<=R:=by
 have hJK:0<J*K:=AQ0 hJ hK;have hvD:v*K<=D:=by omega
 have hT0:0<=T:=ARn (AP7 hy0 (by omega)) h1;constructor
 · rcases h2 with h2 | h2
   · rw[h2,show J*(D*(18446744073709551615+1))=D*J*18446744073709551616 by grind];exact h3
   · have a1:(T+1)*(J*K)<=(y+1)*v*(J*K):=AP2 (by omega) (APs hJK)
     have a2:J*(y+1)*(v*K)<=J*(y+1)*D:=AQD hvD (AP7 (APs hJ) (by omega));have a3:(y+1)*v*(J*K)=J*(y+1)*(v*K):=(by grind);have a4:J*(D*(y+1))=J*(y+1)*D:=(by grind);rw[ARY,ARL] at a1;omega
 · have r0:0<=R:=by have:=AP7 hT0 (APs hJK);omega
   rcases(show y=0\/1<=y by omega) with h | h
   · have hD0:0<=D:=by have:=AP7 (show 0<=v by omega) (APs hK);omega
     have:J*(D*(y-1))= -(J*D):=(by rw[h];grind);have h5:=AP7 (APs hJ) hD0;omega
   · have b1:D<=(v+1)*K:=by rw[ARY,ARL];omega
     have b2:(y-1)*D<=(y-1)*((v+1)*K):=AQD b1 (by omega);have b3:(y-1)*(v+1)<=y*v:=by
      have:(y-1)*(v+1)=y*v-v+y-1:=(by grind);omega
     have b4:(y-1)*(v+1)*K<=T*K:=AP2 (ARn b3 h1) (APs hK);have b5:(y-1)*D<=T*K:=(by rw[<-AQT] at b2;omega);have b6:=AQD b5 (APs hJ);have b7:J*(D*(y-1))=J*((y-1)*D):=(by rw[AP6 D]);have b8:J*(T*K)=T*(J*K):=(by grind);omega
theorem ABA {l:List Int} (h:Ws l) {p:Nat} (h2:2<=p) (hp:p<l.length) (hz:nv l<Wp (p+1)) :
 ∃low:Int,0<=low/\low<Wp (p-2)/\nv l=((rd l (p:Int)*18446744073709551616+rd l ((p-1:Nat):Int))*18446744073709551616+rd l ((p-2:Nat):Int))*Wp (p-2)+low:=by
 refine⟨nv (l.take (p-2)),AN (EM h _), ?_, ?_⟩
 · have:=K8 (EM h (p-2))
   rwa [APx,AQB (by omega)] at this
 · have h0:nv (l.drop (p+1))=0:=VV λq=>by rw[o9];exact VW h hz _ (by omega)
   have e1:=I8 (l:=l) (i:=p-2) (by omega);have e2:=I8 (l:=l) (i:=p-1) (by omega);have e3:=I8 (l:=l) (i:=p) hp;have e4:=Ta l (p-2);rw[e1,show p-2+1=p-1 by omega,e2,show p-1+1=p by omega,e3,Cb,Cb,Cb,h0] at e4;rw[e4]
   grind
theorem AFz {l:List Int} (h:Ws l) (h2:2<=l.length) :
 ∃low:Int,0<=low/\low<Wp (l.length-2)/\nv l=(rd l ((l.length-1:Nat):Int)*18446744073709551616+rd l ((l.length-2:Nat):Int))*Wp (l.length-2)+low:=by
 refine⟨nv (l.take (l.length-2)),AN (EM h _), ?_, ?_⟩
 · have:=K8 (EM h (l.length-2))
   rwa [APx,AQB (by omega)] at this
 · have e1:=I8 (l:=l) (i:=l.length-2) (by omega)
   have e2:=I8 (l:=l) (i:=l.length-1) (by omega);have e4:=Ta l (l.length-2);rw[e1,show l.length-2+1=l.length-1 by omega,e2,show l.length-1+1=l.length by omega,List.drop_length,Cb,Cb] at e4;rw[e4];show _+_*(_+18446744073709551616*(_+18446744073709551616*0))=_
   grind
theorem fT {d:List Int} (hd:Wl d) (hn:2<=d.length) (hv:9223372036854775808<=rd d ((d.length-1:Nat):Int)) {j:Nat} {r:List Int} (hr:Ws r) (hlen:j+d.length<r.length) (qj:r.length<=1000000000) (hlt:nv r<nv d*Wp (j+1)) :
 ∃(y:Int),(Ev (λk=>Ft.f k r ((j+d.length:Nat):Int) (rd d ((d.length-1:Nat):Int)) (rd d ((d.length-2:Nat):Int))) y) /\
  ((∃r':List Int,Ev (λk=>Cm.f k r d (j:Int) y) (false,r')/\r'.length=r.length/\Ws r'/\U y/\nv r=nv r'+Wp j*(y*nv d)/\nv r'<nv d*Wp j) \/
   (∃z r':List Int,Ev (λk=>Cm.f k r d (j:Int) y) (true,z)/\Ev (λk=>Cv.f k z d (j:Int)) r'/\r'.length=r.length/\Ws r'/\1<=y/\U y/\nv r=nv r'+Wp j*((y-1)*nv d)/\nv r'<nv d*Wp j)):=by
 have hD:=K8 hd.1;have hJ:=FF j;have hR0:=AN hr;have hD0:=AN hd.1;have ACw:nv r<Wp (j+d.length+1):=by
  have h1:nv d*Wp (j+1)<=Wp d.length*Wp (j+1):=AP2 (APs hD) (APs (FF _));rw[<-R5,show d.length+(j+1)=j+d.length+1 by omega] at h1;omega
 obtain⟨low,hl0,hl1,hlR⟩:=ABA hr (p:=j+d.length) (by omega) hlen ACw;obtain⟨dl,zD,hd1,hdD⟩:=AFz hd.1 hn;have hv1:=Hl hd.1 ((d.length-1:Nat):Int);have tj:=Hl hd.1 ((d.length-2:Nat):Int);have hK:=FF (d.length-2);have AF0:Wp (j+d.length-2)=Wp j*Wp (d.length-2):=by rw[<-R5];congr 1;omega
 have AA9:rd r ((j+d.length:Nat):Int)<=rd d ((d.length-1:Nat):Int):=by
  have hx2:=(Hl hr ((j+d.length-1:Nat):Int)).1;have hx3:=(Hl hr ((j+d.length-2:Nat):Int)).1;have h1:(nv r)<(rd d ((d.length-1:Nat):Int)*18446744073709551616+rd d ((d.length-2:Nat):Int)+1)*Wp (d.length-2)*Wp (j+1):=by
   refine Int.lt_of_lt_of_le hlt (AP2 ?_ (APs (FF _)));rw[hdD,ARY (_*_+_) 1,ARL];omega
  have h2:(rd d ((d.length-1:Nat):Int)*18446744073709551616+rd d ((d.length-2:Nat):Int)+1)*Wp (d.length-2)*Wp (j+1)=(rd d ((d.length-1:Nat):Int)*18446744073709551616+rd d ((d.length-2:Nat):Int)+1)*18446744073709551616*Wp (j+d.length-2):=by
   rw[AF0,DV];grind
  have h3:((rd r ((j+d.length:Nat):Int)*18446744073709551616+rd r ((j+d.length-1:Nat):Int))*18446744073709551616+rd r ((j+d.length-2:Nat):Int))*Wp (j+d.length-2)<(rd d ((d.length-1:Nat):Int)*18446744073709551616+rd d ((d.length-2:Nat):Int)+1)*18446744073709551616*Wp (j+d.length-2):=by
   rw[<-h2];omega
  have h4:=ASs h3 (APs (FF _));have:=tj.2;clear h1 h2 h3 hlt hlR hdD hl1 hd1 AF0 ACw;generalize rd r ((j+d.length:Nat):Int)=a at *;generalize rd r ((j+d.length-1:Nat):Int)=b at *;generalize rd r ((j+d.length-2:Nat):Int)=c at *;generalize rd d ((d.length-1:Nat):Int)=e at *;generalize rd d ((d.length-2:Nat):Int)=f at *;omega
 obtain⟨y,g1,g2,g3,g4⟩:=o8 hr qj (p:=j+d.length) (by omega) hlen hv1 tj (by omega) AA9;obtain⟨k1,k2⟩:=ALl hJ hK (R:=nv r) (D:=nv d) (by rw[<-AF0];exact hlR) hl0 (by rw[<-AF0];exact hl1) hdD zD hd1 (by have:=tj.1;omega) g2.1 g2.2 g3 g4 (by
  have:nv d*Wp j*18446744073709551616=nv d*Wp (j+1):=by rw[DV];grind
  rw[this];exact hlt)
 obtain⟨z,b,t1,t2,t3,t4,t5,t6,t7⟩:=tZ hr hd g2 hlen qj;have zlt:=tq t3 (k:=j+d.length+1) (λp hp=>by rw[t7 p (by omega)];exact VW hr ACw p hp);have z0:=AN t3;refine⟨y,g1, ?_⟩;have hyD:Wp j*(nv d*(y+1))=Wp j*(y*nv d)+nv d*Wp j:=by grind
 have AO0:Wp j*(nv d*(y-1))=Wp j*(y*nv d)-Wp j*nv d:=by grind
 have APK:nv d*Wp j=Wp j*nv d:=AP6 _ _;rcases(show b=0\/b=1 by omega) with hb | hb
 · subst hb
   rw[AQ1,AQ2] at t6;exact .inl ⟨z,t1,t2,t3,g2,by omega,by omega⟩
 · subst hb
   obtain⟨r',o,s1,s2,s3,s4,s5,s6,s7⟩:=th t3 hd (by rw[t2];exact hlen) (by omega);have rlt:=tq s3 (k:=j+d.length+1) (λp hp=>by rw[s7 p (by omega),t7 p (by omega)];exact VW hr ACw p hp);have r0:=AN s3;have ho:o=1:=by
    rcases(show o=0\/o=1 by omega) with h | h
    · subst h;omega
    · exact h
   subst ho;have hy1:1<=y:=by
    rcases(show y=0\/1<=y by have:=g2.1;omega) with h | h
    · exfalso
      have:Wp j*(y*nv d)=0:=(by rw[h,ARD,AQ1]);omega
    · exact h
   have APk:Wp j*((y-1)*nv d)=Wp j*(y*nv d)-Wp j*nv d:=(by rw[<-AO0,AP6 (nv d)]);exact .inr ⟨z,r',t1,s1,by omega,s3,hy1,g2,by omega,by omega⟩
theorem pE {d:List Int} (hd:Wl d) (hn:2<=d.length) (hv:9223372036854775808<=rd d ((d.length-1:Nat):Int)) {s:Nat} (hs:s<=63) {A:Int} (m:Nat) : ∀(r Q:List Int),Ws r->m+d.length<=r.length->r.length<=1000000000->Ws Q->m+Q.length<=1000000000->nv r<nv d*Wp m->A=nv r+Wp m*(nv Q*nv d)-> ∀i:Int,i=(m:Int)-1 ->
 Ev (λk=>Bq.l1 k (s:Int) d r (d.length:Int) (List.replicate m 0++Q) i) (dg (A/nv d),dg (A%nv d/2^s)):=by
 induction m with
 | zero =>
   intro r Q hr hl qj hQ hQl hlt he i hi;have r0:=AN hr;rw[NH,AQQ] at hlt;rw[NH,ARL] at he;have hq:A/nv d=nv Q:=(by rw[he,AP6,AQj _ _ (by omega),AQV r0 hlt];omega);have hm:A%nv d=nv r:=(by rw[he,AP6,AQt,AQU r0 hlt]);have S:=kC (a:=r) ⟨hr,qj⟩ (n:=(s:Int)) (by omega);rw[APr] at S;refine Ev.step (λk=>Bq.l1.eq_2 ..) ?_;rw[hq,hm];exact Ev.AO (by omega) (Ev.bind (Cz (l:=Q) ⟨hQ,by omega⟩) (Ev.bind S (Ev.same rfl)))
 | succ j ih =>
   intro r Q hr hl qj hQ hQl hlt he i hi;have ei:i=(j:Int):=(by omega);subst ei;have HE:=Hd.mk he;have HL:=Hd.mk hlt;have HV:=Hd.mk hv;clear he hlt hv;have e1:wrap64 ((d.length:Int)-1)=((d.length-1:Nat):Int):=(by rw[AE (by omega) (by omega)];omega);have e2:wrap64 ((d.length:Int)-2)=((d.length-2:Nat):Int):=(by rw[AE (by omega) (by omega)];omega);have e3:wrap64 ((j:Int)+(d.length:Int))=((j+d.length:Nat):Int):=(by rw[AE (by omega) (by omega)];omega);have e4:wrap64 ((j:Int)-1)=(j:Int)-1:=AE (by omega) (by omega);have er:List.replicate (j+1) 0++Q=List.replicate j 0++(0:Int)::Q:=(by rw[ASg,AQ6];rfl);have es : ∀v,(List.replicate j 0++(0:Int)::Q).set (j:Int).toNat v=List.replicate j 0++v::Q:=λv=>by
    have:=XE (List.replicate j 0) 0 v Q;rw[AQ8] at this;rw[APr];exact this
   have el:(List.replicate j 0++(0:Int)::Q).length=j+1+Q.length:=(by rw[AP3,AQ8,AQW];omega);obtain⟨y,g,h⟩:=fT hd hn HV.out hr (j:=j) (by omega) qj HL.out;refine Ev.step (λk=>Bq.l1.eq_2 ..) ?_;rw[e1,e2,e3,e4,er];refine Ev.AI (by omega) (Ev.AI (by omega) (Ev.AI (by omega) (Ev.AI (by omega) (Ev.AI (by omega) (Ev.bind g ?_)))));have hval : ∀(q v:Int),nv r=v+Wp j*(q*nv d)->A=v+Wp j*(nv (q::Q)*nv d):=by
    intro q v tj;rw[HE.out,tj,Cb,DV]
    grind
   rcases h with⟨r',t1,t2,t3,t4,t5,t6⟩ | ⟨z,r',t1,b1,t2,t3,t0,t4,t5,t6⟩
   · have h2:=ih r' (y::Q) t3 (by omega) (by omega) (Gq.2 ⟨t4,hQ⟩) (by rw[AQW];omega) t6 (hval _ _ t5) _ rfl
     refine Ev.bind t1 (Ev.AO (by simp) (Ev.AI (by omega) (Ev.AI (by rw[el];omega) ?_)));rw[es];exact h2
   · have h2:=ih r' ((y-1)::Q) t3 (by omega) (by omega) (Gq.2 ⟨⟨by omega,by have:=t4.2;omega⟩,hQ⟩) (by rw[AQW];omega) t6 (hval _ _ t5) _ rfl
     refine Ev.bind t1 (Ev.AI rfl (Ev.bind b1 (Ev.AI (by omega) (Ev.AI (by rw[el];omega) ?_))));rw[es,DY (by omega) (by have:=t4.2;omega)];exact h2
theorem AIk (l:List Int) (n:Nat):nv (l++List.replicate n 0)=nv l:=by rw[fG,R6];omega
theorem pF {a d:List Int} (hla:a.length<=900000000) (hd:Wl d) (hn:2<=d.length) (hda:d.length<=a.length) (hv:9223372036854775808<=rd d ((d.length-1:Nat):Int)) {s:Nat} (hs:s<=63) (e:Nat) : ∀r:List Int,Ws r->r.length+e=a.length+1->nv r<nv d*Wp (a.length+1-d.length) ->
 Ev (λk=>Bq.l0 k a (s:Int) d r) (dg (nv r/nv d),dg (nv r%nv d/2^s)):=by
 induction e with
 | zero =>
   intro r hr hl hlt;have HL:=Hd.mk hlt;have HV:=Hd.mk hv;clear hlt hv;have e1:wrap64 ((a.length:Int)+1)=((a.length+1:Nat):Int):=(by rw[AE (by omega) (by omega)];omega);have e2:wrap64 ((r.length:Int)-(d.length:Int))=((a.length+1-d.length:Nat):Int):=(by rw[AE (by omega) (by omega)];omega);have e3:wrap64 (((List.replicate (a.length+1-d.length) (0:Int)).length:Int)-1)=((a.length+1-d.length:Nat):Int)-1:=(by rw[AQ8,AE (by omega) (by omega)]);have h:=pE hd hn HV.out hs (A:=nv r) (a.length+1-d.length) r [] hr (by omega) (by omega) GI (by simp;omega) HL.out (by simp[nv]) _ rfl;rw[ARC] at h;refine Ev.step (λk=>Bq.l0.eq_2 ..) ?_;rw[e1,e2,APr];refine Ev.AO (by omega) (Ev.AI (by omega) (Ev.AI (by omega) (Ev.AZ rfl ?_)));rw[e3];exact h
 | succ e ih =>
   intro r hr hl hlt;have e1:wrap64 ((a.length:Int)+1)=((a.length+1:Nat):Int):=(by rw[AE (by omega) (by omega)];omega);have hp:nv (r++ [0])=nv r:=AIk r 1;have h:=ih (r++ [0]) (RU.2 ⟨hr,JB ⟨by omega,by omega⟩⟩) (by rw[AP3];show r.length+1+e=_;omega) (by rw[hp];exact hlt);rw[hp] at h;clear hlt hp ih;refine Ev.step (λk=>Bq.l0.eq_2 ..) ?_;rw[e1];exact Ev.AI (by omega) (Ev.AI (by omega) h)
theorem tr {A B:Int} (hB:0<B) (hAB:B<=A) (hn:2<=(dg B).length) (hA:bl A<=50000000000):Ev (λk=>Bq.f k (dg A) (dg B)) (dg (A/B),dg (A%B)):=by
 have hBA:=B9 hAB;have wA:=BO (n:=A) (by omega);have wB:=BO (n:=B) (by omega);have kA:=AQ A;have kB:=AQ B;have vA:=AY (n:=A) (by omega);have vB:=AY (n:=B) (by omega);have bp:=Ds hB;have b1:=HN B;have b2:=Wj hB;have b3:=Oj (n:=B) (by omega);have b4:=YY hB;have a1:=Oj (n:=A) (by omega);obtain⟨n,hN⟩ : ∃n,n=(dg B).length:=⟨_,rfl⟩;obtain⟨la,hla⟩ : ∃la,la=(dg A).length:=⟨_,rfl⟩;rw[<-hN] at b3 b4 hn;rw[<-hla] at a1;have APl:bl B<=64*n:=by rw[Gp] at b3;have:=CA b3;omega
 have APm:64*(n:Int)<=bl B+63:=by omega
 have rE:n<=la:=by
  rcases AQS la n with h | h
  · exfalso
    have:=fF (show la<=n-1 by omega);omega
  · exact h
 obtain⟨s,hs⟩ : ∃s:Nat,(s:Int)=64*n-bl B:=⟨(64*(n:Int)-bl B).toNat,by omega⟩;have AIg:s<=63:=by omega
 have ps:=pow_pos s;have es:wrap64 (wrap64 (64*((dg B).length:Int))-bl B)=(s:Int):=by
  rw[<-hN,AE (n:=64*(n:Int)) (by omega) (by omega),AE (by omega) (by omega)];omega
 have ES:=Hd.mk es;clear es;have hD1:B*2^s<Wp n:=by
  have h:=AQw b1 ps;rw[<-AQK,show(bl B).toNat+s=64*n by omega,<-Gp] at h;exact h
 have hD2:9223372036854775808*Wp (n-1)<=B*2^s:=by
  have h:=AP2 b2 (APs ps);rw[<-AQK,show(bl B-1).toNat+s=63+64*(n-1) by omega,AQK,<-Gp] at h;exact h
 have pn:=FF (n-1);have AEH:(dg (B*2^s)).length=n:=by
  have h1:=L8 hD1;have h2:=kO (n:=B*2^s) (m:=n-1) (by omega);omega
 have hDp:0<B*2^s:=AQ0 hB ps;have vD:=AY (APs hDp);have hAp:0<=A*2^s:=AP7 (by omega) (APs ps);have vAs:=AY hAp;have hA1:A*2^s<Wp la*2^s:=AQw a1 ps;have h2s:(2:Int)^s<=2^63:=A7 AIg;have hA2:Wp la*2^s<=Wp la*2^63:=AQD h2s (APs (FF la));have APL:(dg (A*2^s)).length<=la+1:=by
  refine L8 ?_;rw[DV];have:=FF la;omega
 have AO1:Wp la=Wp (n-1)*Wp (la+1-n):=by rw[<-R5];congr 1;omega
 have hlt:nv (dg (A*2^s))<nv (dg (B*2^s))*Wp (la+1-n):=by
  rw[vD,vAs];have h:=AP2 hD2 (APs (FF (la+1-n)));rw[AQT,<-AO1] at h;omega
 have AA9:9223372036854775808<=rd (dg (B*2^s)) (((dg (B*2^s)).length-1:Nat):Int):=by
  have h1:=Bo (l:=dg (B*2^s)) (i:=n-1) (by omega);rw[AP5 (by omega),vD] at h1;have h2:=K8 (EM (Qm (B*2^s)) (n-1));rw[APx,AEH,AQB (by omega)] at h2;rw[AEH];have h3:9223372036854775808*Wp (n-1)<(rd (dg (B*2^s)) ((n-1:Nat):Int)+1)*Wp (n-1):=by
   rw[ARY,ARL,AP6 (rd _ _)];omega
  have:=ASs h3 (APs pn);omega
 have hB':=E8 wB;rw[vB] at hB';have hS1:=TO wB (by omega) (s:Int);have hS2:=TO wA (by omega) (s:Int);rw[VJ (by omega) (by omega),APr,vB] at hS1;rw[VJ (by omega) (by omega),APr,vA] at hS2;have main:=pF (a:=dg A) (d:=dg (B*2^s)) (by omega) ⟨Qm _,by omega⟩ (by omega) (by omega) AA9 AIg (la+1-(dg (A*2^s)).length) (dg (A*2^s)) (Qm _) (by omega) (by rw[AEH,<-hla];exact hlt);rw[vD,vAs,ASi _ _ ps,AP6 A,AP6 B,ARZ _ _ ps,ASI _ (by omega),AP6 _ A,AP6 _ B] at main;unfold Bq.f;refine Ev.bind hB' ?_;rw[ES.out];exact Ev.bind hS1 (Ev.bind hS2 main)
theorem Pg {a b:List Int} (ha:Wl a) (hb:Wl b) (hla:a.length<=700000000) :
 Ev (λk=>Gx.f k a b) (if nv b=0 then([],[],false) else(dg (nv a/nv b),dg (nv a%nv b),true)):=by
 have na:=AN ha.1;have nb:=AN hb.1;have ba:=E9 ha.1;refine Ev.bind (Cz ha) (Ev.bind (Cz hb) ?_);by_cases h0:nv b=0
 · rw[if_pos h0,h0]
   exact Ev.AI rfl (Ev.same rfl)
 · rw[if_neg h0]
   have hl:((dg (nv b)).length:Int)≠0:=λh=>h0 ((Cq nb).1 (by omega))
   have wa:=BO (n:=nv a) (by omega);have wb:Wl (dg (nv b)):=⟨Qm _,by have:=AA7 hb.1;have:=hb.2;omega⟩;have C:=Ol wa wb;rw[AY na,AY nb] at C;refine Ev.AO hl (Ev.bind C ?_);by_cases h1:nv a<nv b
   · rw[bV h1,AQV na h1,AQU na h1]
     exact Ev.AI (by omega) (Ev.same rfl)
   · have hc : ¬Gk (nv a) (nv b)<0:=by unfold Gk;rw[if_neg h1];split<;>omega
     refine Ev.AO hc ?_;by_cases h2:((dg (nv b)).length:Int)=1
     · have gp:nv b<18446744073709551616:=by
        have:=Oj nb;rw[show(dg (nv b)).length=1 by omega,DV,NH] at this;omega
       have e:dg (nv b)= [nv b]:=by
        rw[MI (by omega),show nv b/18446744073709551616=0 by omega,Gj,show nv b%18446744073709551616=nv b by omega]
       have hq:=ZL wa (d:=nv b) (by omega) gp;rw[AY na] at hq;have hm0:=AQJ (nv a) h0;have hm1:=AQG (nv a) (show 0<nv b by omega);have er:rd (dg (nv b)) 0=nv b:=(by rw[e];rfl);refine Ev.AI h2 (Ev.AI (by omega) ?_);rw[er];exact Ev.bind hq (Ev.bind (OU (x:=nv a%nv b) ⟨hm0,by omega⟩) (Ev.same rfl))
     · exact Ev.AO h2 (Ev.bind (tr (by omega) (by omega) (by omega) (by omega)) (Ev.same rfl))
def JC (A r:Int):Prop:=0<=r/\r*r<=A/\A<(r+1)*(r+1)
theorem bP {A:Int} (h:0<=A) : ∃r,JC A r:=by
 obtain⟨n,rfl⟩:=AP0 h;induction n with
 | zero=>exact⟨0,by omega,by omega,by omega⟩
 | succ n ih =>
   obtain⟨r,h1,h2,h3⟩:=ih (by omega);by_cases h4:(r+1)*(r+1)<=((n+1:Nat):Int)
   · refine⟨r+1,by omega,h4, ?_⟩
     have:(r+1+1)*(r+1+1)=(r+1)*(r+1)+2*r+3:=(by grind);omega
   · exact⟨r,h1,by omega,by omega⟩
theorem AG0 {a b:Int} (ha:0<=a) (h:a<=b):a*a<=b*b:=AST h h ha (by omega)
theorem ACq {a b:Int} (hb:0<=b) (h:a*a<=b*b):a<=b:=by
 rcases AQf b a with h1 | h1
 · have:=AG0 (a:=b+1) (b:=a) (by omega) (by omega)
   have e:(b+1)*(b+1)=b*b+2*b+1:=(by grind);omega
 · exact h1
theorem FA {a b:Int} (hb:0<=b) (h:a*a<b*b):a<b:=by
 rcases AQf a b with h1 | h1
 · exact h1
 · have:=AG0 hb h1
   omega
theorem sF {A r s:Int} (h:JC A r) (h':JC A s):r=s:=by
 obtain⟨a0,a1,a2⟩:=h;obtain⟨b0,b1,b2⟩:=h';have:=FA (a:=r) (b:=s+1) (by omega) (by omega);have:=FA (a:=s) (b:=r+1) (by omega) (by omega);omega
def fx (b:Int):Int:=b/4503599627370496%2048
def fr (b:Int):Int:=b%4503599627370496
def fs (b:Int):Bool:=decide (b>=9223372036854775808)
def KG (neg:Bool) (b:Int):Int:=if neg then b+9223372036854775808 else b
def fk (b:Int):Int:=if fx b=2047 then(if fr b=0 then 3 else 4) else if fx b=0 then(if fr b=0 then 0 else 1) else 2
def pm (b:Int):Int:=if fx b=0 then fr b else fr b+4503599627370496
def pe (b:Int):Int:=if fx b=0 then -1074 else fx b-1075
def Xz:Int:=9218868437227405312
def gw:Int:=9221120237041090560
theorem AF1 {a b c:Int} (h:0<c):(a*c>b*c↔a>b)/\(a*c=b*c↔a=b):=by
 constructor
 · constructor
   · intro h1
     rcases AQf b a with h2 | h2
     · exact h2
     · have:=AP2 h2 (APs h)
       omega
   · intro h1
     exact AQw h1 h
 · exact⟨λh1=>ARe (by omega) h1,λh1=>by rw[h1]⟩
theorem Gz (M:Int) {G D:Int} (hG:0<G):M%(G*D)=G*(M/G%D)+M%G:=by
 rw[ATP M (G*D),<-AQa (by omega),ATP (M/G) D,ATP M G]
 grind
def RA (M:Int) (d:Nat):Int:=if 2*(M%2^d)>2^d\/(2*(M%2^d)=2^d/\M/2^d%2=1) then M/2^d+1 else M/2^d
theorem MH (M:Int):RA M 0=M:=by
 unfold RA;rw[AQA,AQs,ARV,if_neg (by omega)]
theorem AC3 (M:Int) (d:Nat):M/2^d<=RA M d/\RA M d<=M/2^d+1:=by
 unfold RA;split<;>omega
theorem YJ {M:Int} {d:Nat} (h0:0<=M) (h:2*M<2^d):RA M d=0:=by
 unfold RA;rw[AQU h0 (by omega),AQV h0 (by omega),if_neg (by omega)]
theorem ABB {M:Int} {d:Nat} (h:M%2^d=0):RA M d=M/2^d:=by
 have:=pow_pos d;unfold RA;rw[h,if_neg (by omega)]
theorem kS (M:Int) (d s:Nat):RA (M*2^s) (d+s)=RA M d:=by
 have hs:=pow_pos s;have e1:M*2^s/2^(d+s)=M/2^d:=by
  rw[AQK,AP6 M,AP6 (2^d),Int.mul_ediv_mul_of_pos _ _ hs]
 have e2:M*2^s%2^(d+s)=M%2^d*2^s:=by
  rw[AQK,AP6 M,AP6 (2^d),ARZ _ _ hs,AP6]
 have e3:=AF1 (a:=2*(M%2^d)) (b:=2^d) hs;unfold RA;rw[e1,e2,<-AQT,AQK];simp only[e3.1,e3.2]
theorem VG {x:Int} {n:Nat} (h:2^n<=x):(n:Int)+1<=bl x:=by
 have:=pow_pos n;have a1:=HN x;have:n<(bl x).toNat:=TX (by omega);omega
theorem eF {m:Int} (h:0<m) (s:Nat):bl (m*2^s)=bl m+s:=by
 have hp:=pow_pos s;have h1:2^s<=m*2^s:=by
  have:=AP2 (show 1<=m by omega) (APs hp);omega
 rw[Rg h1,ASq _ (by omega)]
def un (m e:Int):Int:=max (bl m+e-53) (-1074)
theorem zG (m e:Int) : -1074<=un m e:=by unfold un;omega
theorem tu {m:Int} (h:0<m) (e:Int) (s:Nat):un (m*2^s) (e-s)=un m e:=by
 unfold un;rw[eF h,show bl m+(s:Int)+(e-s)-53=bl m+e-53 by omega]
def ru (m e u:Int):Int:=RA (m*2^(e-u).toNat) (u-e).toNat
theorem AEI (m e u:Int) (s:Nat):ru (m*2^s) (e-s) u=ru m e u:=by
 unfold ru;rcases AQf u e with h | h
 · obtain⟨t,ht⟩ : ∃t:Nat,e-u=t:=⟨(e-u).toNat,by omega⟩
   rw[show(u-e).toNat=0 by omega,MH,ht,APr];rcases AQS t s with h2 | h2
   · rw[show(e-s-u).toNat=0 by omega,show(u-(e-s)).toNat=0+(s-t) by omega,AQA,AQQ]
     have:m*2^s=m*2^t*2^(s-t):=(by rw[AQT,<-AQK,show t+(s-t)=s by omega]);rw[this,kS,MH]
   · rw[show(e-s-u).toNat=t-s by omega,show(u-(e-s)).toNat=0 by omega,MH,AQT,<-AQK,show s+(t-s)=t by omega]
 · rw[show(e-u).toNat=0 by omega,show(e-s-u).toNat=0 by omega,AQA,AQQ,AQQ,show(u-(e-s)).toNat=(u-e).toNat+s by omega,kS]
def Rd (m e:Int):Int:=if m<=0 then 0 else if un m e>971 then Xz else(un m e+1074)*4503599627370496+ru m e (un m e)
theorem nF (e:Int):Rd 0 e=0:=by unfold Rd;rw[if_pos (by omega)]
theorem Im {m:Int} (h:0<m) (e:Int) (s:Nat):Rd (m*2^s) (e-s)=Rd m e:=by
 have:0<m*2^s:=AQ0 h (pow_pos s);unfold Rd;rw[if_neg (show¬m*2^s<=0 by omega),if_neg (show¬m<=0 by omega),tu h,AEI]
theorem ABC {X:Int} {g:Nat} (h:1<=X/2^g):2^g<=X:=by
 rw[AQm (pow_pos g)] at h;omega
theorem kT {X:Int} {g:Nat} (h:2^g<=X):1<=X/2^g:=by
 rw[AQm (pow_pos g)];omega
theorem AF2 {X Y c:Int} {g:Nat} (hX:0<X) (hY:0<Y) (hq:X/2^g=Y/2^g) (hu:c+g+1<=un X c):un X c=un Y c:=by
 have hp:=pow_pos g;unfold un at *;rcases AQf X (2^g) with h | h
 · have e1:X/2^g=0:=AQV (by omega) h
   have h2:Y<2^g:=by
    rcases AQf Y (2^g) with h' | h'
    · exact h'
    · have:=kT h'
      omega
   have b1:=CA h;have b2:=CA h2;omega
 · have h3:=kT h
   rw[hq] at h3;rw[Rg h,Rg (ABC h3),hq]
theorem tv {G κ H x:Int} (hG:0<G) (h0:0<=x) (h1:x<G):(2*(G*κ+x)>G*(2*H)↔(κ>H\/(κ=H/\x≠0)))/\(2*(G*κ+x)=G*(2*H)↔(κ=H/\x=0)):=by
 rw[show G*(2*H)=2*(G*H) from Int.mul_left_comm ..];rcases AR1 κ H with h | h | h
 · have:=AQD (show κ+1<=H by omega) (APs hG)
   rw[ART,AQQ] at this;omega
 · subst h
   omega
 · have:=AQD (show H+1<=κ by omega) (APs hG)
   rw[ART,AQQ] at this;omega
theorem AEJ {X Y:Int} {d g:Nat} (hgd:g+1<=d) (hq:X/2^g=Y/2^g) (hz:X%2^g=0↔Y%2^g=0):RA X d=RA Y d:=by
 obtain⟨j,rfl⟩ : ∃j,d=g+(j+1):=⟨d-g-1,by omega⟩;have hG:=pow_pos g;have e:(2:Int)^(g+(j+1))=2^g*(2*2^j):=by rw[AQK,AQH,AP6 (2^j)]
 unfold RA;have ex:X/(2^g*(2*2^j))=X/2^g/(2*2^j):=(AQa (by omega)).symm;have ey:Y/(2^g*(2*2^j))=Y/2^g/(2*2^j):=(AQa (by omega)).symm;rw[e,Gz X hG,Gz Y hG,ex,ey,hq];have hx:=tv (κ:=Y/2^g%(2*2^j)) (H:=2^j) hG (AQJ X (show(2:Int)^g≠0 by omega)) (AQG X hG);have hy:=tv (κ:=Y/2^g%(2*2^j)) (H:=2^j) hG (AQJ Y (show(2:Int)^g≠0 by omega)) (AQG Y hG);simp only[hx.1,hx.2,hy.1,hy.2,ne_eq,hz]
theorem Pb {X Y c:Int} {g:Nat} (hX:0<X) (hY:0<Y) (hq:X/2^g=Y/2^g) (hz:X%2^g=0↔Y%2^g=0) (hu:c+g+1<=un X c):Rd X c=Rd Y c:=by
 have e:=AF2 hX hY hq hu;unfold Rd;rw[if_neg (show¬X<=0 by omega),if_neg (show¬Y<=0 by omega),<-e];split
 · rfl
 · congr 1
   unfold ru;rw[show(c-un X c).toNat=0 by omega,AQA,AQQ,AQQ];exact AEJ (g:=g) (by omega) hq hz
def st (M:Int) (s:Nat):Int:=if M%2^s=0 then M/2^s else M/2^s/2*2+1
theorem AFF (M:Int):st M 0=M:=by unfold st;rw[AQA,ARV,if_pos rfl,AQs]
theorem j6 {M:Int} (h:0<=M) (s:Nat):0<=st M s:=by
 have:=AQC h (APs (pow_pos s));unfold st;split<;>omega
theorem AIl {M:Int} (h:0<M) (s:Nat):0<st M s:=by
 have:=AQC (APs h) (APs (pow_pos s));have hd:=AP9 M (2^s);unfold st;split
 · rename_i hz
   rcases(show M/2^s=0\/0<M/2^s by omega) with h1 | h1
   · rw[h1,hz,AQ1] at hd
     omega
   · exact h1
 · omega
theorem zB (M:Int) (s:Nat):(st M s*2^s)/2^(s+1)=M/2^(s+1)/\((st M s*2^s)%2^(s+1)=0↔M%2^(s+1)=0):=by
 have hG:=pow_pos s;have hr:=AQJ M (show(2:Int)^s≠0 by omega);have e1:st M s*2^s/2^s=st M s:=ASq _ (by omega);have e2:st M s*2^s%2^s=0:=AS6 ..;rw[AQH,Gz _ hG,Gz M hG,<-AQa (by omega),<-AQa (by omega),e1,e2];have hk : ∀k:Int,k=0\/k=1->(2^s*k=0↔k=0):=by
  intro k hk;rcases hk with rfl | rfl
  · simp
  · rw[AQQ];omega
 have k1:=hk (st M s%2) (by omega);have k2:=hk (M/2^s%2) (by omega);have p2:0<=2^s*(M/2^s%2):=AP7 (by omega) (by omega);unfold st at *;split
 · rename_i hz
   rw[if_pos hz] at k1;constructor<;>omega
 · rename_i hz
   rw[if_neg hz] at k1;constructor<;>omega
theorem AJN {M e:Int} {s:Nat} (hM:0<M) (hu:e+s+2<=un M e):Rd (st M s) (e+s)=Rd M e:=by
 have h1:=AIl hM s;have h2:=zB M s;have h3:=Im h1 (e+s) s;rw[show e+(s:Int)-s=e by omega] at h3;rw[<-h3];exact(Pb (g:=s+1) hM (AQ0 h1 (pow_pos s)) h2.1.symm h2.2.symm (by omega)).symm
theorem AAn {m e:Int} (h:0<m):0<=m*2^(e-un m e).toNat/2^(un m e-e).toNat/\m*2^(e-un m e).toNat/2^(un m e-e).toNat<9007199254740992/\(un m e= -1074\/4503599627370496<=m*2^(e-un m e).toNat/2^(un m e-e).toNat):=by
 have hu:un m e=max (bl m+e-53) (-1074):=rfl;have hb:=eF h (e-un m e).toNat;have hM:0<m*2^(e-un m e).toNat:=AQ0 h (pow_pos _);have a1:=HN (m*2^(e-un m e).toNat);have a2:=Wj hM;have a3:=Ds hM;have hp:=pow_pos (un m e-e).toNat;generalize un m e=u at *;generalize m*2^(e-u).toNat=M at *;have q0:0<=M/2^(u-e).toNat:=AQC (by omega) (by omega);have q1:M/2^(u-e).toNat<9007199254740992:=by
  rw[AQL hp,show(9007199254740992:Int)=2^53 from rfl,<-AQK];have:=A7 (a:=(bl M).toNat) (b:=53+(u-e).toNat) (by omega);omega
 refine⟨q0,q1, ?_⟩;rcases(show u= -1074\/u=bl m+e-53 by omega) with h1 | h1
 · exact .inl h1
 · refine .inr ?_
   rw[AQm hp,show(4503599627370496:Int)=2^52 from rfl,<-AQK];have:=A7 (a:=52+(u-e).toNat) (b:=(bl M-1).toNat) (by omega);omega
theorem Wi {m e:Int} (h:0<m):0<=ru m e (un m e)/\ru m e (un m e)<=9007199254740992/\(un m e= -1074\/4503599627370496<=ru m e (un m e)):=by
 have q:=AAn (e:=e) h;have r:=AC3 (m*2^(e-un m e).toNat) (un m e-e).toNat;unfold ru;omega
theorem MF (m e:Int):0<=Rd m e/\Rd m e<=Xz:=by
 unfold Rd Xz;split
 · omega
 · split
   · omega
   · have:=Wi (m:=m) (e:=e) (by omega)
     have:=zG m e;omega
theorem AHr {m e:Int} (h:0<m) (he:1024<=e):Rd m e=Xz:=by
 have:=Ds h;unfold Rd;rw[if_neg (by omega),if_pos (by unfold un;omega)]
theorem nH {m e:Int} (h:0<=m) (he:bl m+e < -1074):Rd m e=0:=by
 rcases(show m=0\/0<m by omega) with rfl | h1
 · exact nF e
 · have hb:=Ds h1
   have hu:un m e= -1074:=(by unfold un;omega);have hl:=HN m;unfold Rd ru;rw[hu,if_neg (by omega),if_neg (by omega),show(e - -1074).toNat=0 by omega,AQA,AQQ];obtain⟨j,hj⟩ : ∃j:Nat,(-1074-e).toNat=j+1:=⟨(-1074-e).toNat-1,by omega⟩;have:=A7 (a:=(bl m).toNat) (b:=j) (by omega);rw[hj,YJ h (by rw[AQH];omega)];rfl
def Mk (neg:Bool) (m e:Int):Int × Bool :=
 if m=0 then(KG neg 0,true) else
  if un m e>971\/m*2^(e-un m e).toNat%2^(un m e-e).toNat≠0 then(0,false) else(KG neg (Rd m e),true)
theorem Wc (neg:Bool) (e:Int):Mk neg 0 e=(KG neg 0,true):=by unfold Mk;rw[if_pos rfl]
theorem Qj (neg:Bool) {m e:Int} (h:m≠0) (hc:un m e>971\/m*2^(e-un m e).toNat%2^(un m e-e).toNat≠0):Mk neg m e=(0,false):=by
 unfold Mk;rw[if_neg h,if_pos hc]
theorem RZ (neg:Bool) {m e:Int} (h:m≠0) (h1:un m e<=971) (h2:m*2^(e-un m e).toNat%2^(un m e-e).toNat=0):Mk neg m e=(KG neg (Rd m e),true):=by
 unfold Mk;rw[if_neg h,if_neg (by rw[not_or];exact⟨by omega,λk=>k h2⟩)]
theorem Ra {m e:Int} (h:0<m) (h1:un m e<=971) (h2:m*2^(e-un m e).toNat%2^(un m e-e).toNat=0):Rd m e=(un m e+1074)*4503599627370496+m*2^(e-un m e).toNat/2^(un m e-e).toNat:=by
 unfold Rd ru;rw[if_neg (by omega),if_neg (by omega),ABB h2]
theorem ACn {m e:Int} {n:Nat} (h1:2^n<=m) (h2:m<2^(n+1)):un m e=max ((n:Int)+e-52) (-1074):=by
 unfold un;rw[AGy h1 h2]
 congr 1
 omega
theorem nC {w u:Int} (h0:0<w) (h1:w<=9007199254740992) (hu0 : -1074<=u) (r8:u<=971) (hw:u= -1074\/4503599627370496<=w) :
 (w<9007199254740992->un w u=u)/\(w=9007199254740992->un w u=u+1)/\(un w u<=971->w*2^(u-un w u).toNat%2^(un w u-u).toNat=0)/\Rd w u=(u+1074)*4503599627370496+w:=by
 have key:(w<9007199254740992->un w u=u)/\(w=9007199254740992->un w u=u+1):=by
  constructor
  · intro h
    rcases AQf w 4503599627370496 with h2 | h2
    · have:=CA (x:=w) (n:=52) h2
      unfold un;omega
    · rw[ACn (n:=52) h2 h]
      omega
  · intro h
    rw[ACn (n:=53) (by omega) (by omega)];omega
 refine⟨key.1,key.2, ?_⟩;rcases(show w<9007199254740992\/w=9007199254740992 by omega) with h | h
 · have e:=key.1 h
   rw[e];have e2:w*2^(u-u).toNat%2^(u-u).toNat=0:=by
    rw[show(u-u).toNat=0 by omega,AQA,ARV]
   refine⟨λ_=>e2, ?_⟩;rw[Ra h0 (by omega) (by rw[e];exact e2),e,show(u-u).toNat=0 by omega,AQA,AQQ,AQs]
 · have e:=key.2 h
   rw[e];have e2:w*2^(u-(u+1)).toNat%2^(u+1-u).toNat=0:=by
    rw[show(u-(u+1)).toNat=0 by omega,show(u+1-u).toNat=1 by omega,h];rfl
   refine⟨λ_=>e2, ?_⟩;rcases(show u=971\/u+1<=971 by omega) with h3 | h3
   · unfold Rd Xz
     rw[if_neg (by omega),if_pos (by omega)];omega
   · rw[Ra h0 (by omega) (by rw[e];exact e2),e,show(u-(u+1)).toNat=0 by omega,show(u+1-u).toNat=1 by omega,h]
     simp only[AQA,AQQ,ARX];omega
theorem zE {neg:Bool} {w u:Int} (h0:0<=w) (h1:w<=9007199254740992) (hu0 : -1074<=u) (r8:u<=971) (hw:u= -1074\/4503599627370496<=w) :
 (if(Mk neg w u).2 then(Mk neg w u).1 else KG neg Xz)=KG neg ((u+1074)*4503599627370496+w):=by
 rcases(show w=0\/0<w by omega) with rfl | h
 · rw[Wc]
   obtain rfl:u= -1074:=by omega
   rfl
 · obtain⟨k1,k2,k3,k4⟩:=nC h h1 hu0 r8 hw
   by_cases hc:un w u>971
   · rw[Qj neg (by omega) (.inl hc)]
     have hw2:w=9007199254740992:=(by omega);have hu2:u=971:=(by omega);rw[hw2,hu2];rfl
   · rw[RZ neg (by omega) (by omega) (k3 (by omega)),k4]
     rfl
theorem sA (neg:Bool) {m:Int} (h:0<m) (e:Int):Mk neg (m*2) (e-1)=Mk neg m e:=by
 have hu:=tu h e 1;have hR:=Im h e 1;rw[ARX] at hu hR;rw[show e-((1:Nat):Int)=e-1 from rfl] at hu hR;have:m*2*2^(e-1-un m e).toNat%2^(un m e-(e-1)).toNat=0↔m*2^(e-un m e).toNat%2^(un m e-e).toNat=0:=by
  generalize un m e=u;rcases AQf u e with h1 | h1
  · rw[show(u-e).toNat=0 by omega,show(u-(e-1)).toNat=0 by omega,AQA,ARV,ARV]
  · rw[show(e-u).toNat=0 by omega,show(e-1-u).toNat=0 by omega,show(u-(e-1)).toNat=(u-e).toNat+1 by omega,AQH,AQA,AQQ,AQQ,AP6 m,AP6 (2^_),ARZ _ _ (by omega)]
    omega
 by_cases hc:un m e>971\/m*2^(e-un m e).toNat%2^(un m e-e).toNat≠0
 · rw[Qj neg (by omega) hc,Qj neg (by omega) (by rw[hu];rcases hc with hc | hc;exact .inl hc;exact .inr (λk=>hc (this.1 k)))]
 · rw[not_or] at hc
   have h2:m*2^(e-un m e).toNat%2^(un m e-e).toNat=0:=Decidable.byContradiction hc.2;rw[RZ neg (by omega) (by omega) h2,RZ neg (by omega) (by omega) (by rw[hu];exact this.2 h2),hR]
theorem Wa {b:Int} :0<=fx b/\fx b<2048:=by unfold fx;omega
theorem OT {b:Int} :0<=fr b/\fr b<4503599627370496:=by unfold fr;omega
theorem FB (b:Int):0<=pm b/\pm b<9007199254740992:=by
 have:= @OT b;unfold pm;split<;>omega
theorem Gw (b:Int) : -1074<=pe b/\pe b<=972/\(fx b≠2047->pe b<=971)/\(pe b= -1074\/4503599627370496<=pm b):=by
 have:= @Wa b;have:= @OT b;unfold pe pm;split<;>omega
theorem Wb (b:Int):(fk b=4↔fx b=2047/\fr b≠0)/\(fk b=3↔fx b=2047/\fr b=0)/\(fk b=0↔fx b=0/\fr b=0)/\(fk b=0↔fx b≠2047/\pm b=0)/\0<=fk b/\fk b<=4:=by
 have h2:= @OT b;unfold fk pm;by_cases c1:fx b=2047
 · rw[if_pos c1]
   by_cases c2:fr b=0
   · rw[if_pos c2];omega
   · rw[if_neg c2];omega
 · rw[if_neg c1]
   by_cases c3:fx b=0
   · rw[if_pos c3,if_pos c3]
     by_cases c2:fr b=0
     · rw[if_pos c2];omega
     · rw[if_neg c2];omega
   · rw[if_neg c3,if_neg c3];omega
theorem LS {b:Int} (h4:fk b≠4) (h3:fk b≠3):fx b≠2047:=by
 have:=Wb b;omega
theorem AEK {l:List Int} {i:Nat} (h:l.length<=i):rd l (i:Int)=0:=fM h
theorem uA {x:Int} (hx:U x) {b:Nat} (hb:b<=63) (h0:x/2^b%2=0):Go.bits .or .u64 x (2^b)=x+2^b/\U (x+2^b):=by
 obtain⟨hx0,hx1⟩:=hx;have hp:=pow_pos b;have Mp:=pow_pos (b+1);have APn:(2:Int)^b<=2^63:=A7 hb;have hs:=Gz x (D:=2) hp;rw[h0,AQ1,ASZ] at hs;rw[show(2:Int)^b*2=2^(b+1) from(AQH ..).symm] at hs;have hd:=AP9 x (2^(b+1));have r0:=AQJ x (show(2:Int)^b≠0 by omega);have r1:=AQG x hp;rw[hs] at hd;have ah:0<=2^(b+1)*(x/2^(b+1)):=AP7 (by omega) (AQC hx0 (by omega));have hAm:2^(b+1)*(x/2^(b+1))%2^(b+1)=0:=ARI ..;have eI:(2:Int)^(b+1)*2^(63-b)=18446744073709551616:=by rw[<-AQK,show b+1+(63-b)=64 by omega];rfl
 have hq:x/2^(b+1)<2^(63-b):=by rw[AQL Mp,AP6,eI];exact hx1
 have AA9:=AQD (show x/2^(b+1)+1<=2^(63-b) by omega) (APs Mp);rw[eI,ART,AQQ] at AA9;have e2:(2:Int)^(b+1)=2^b*2:=AQH ..;generalize hA:2^(b+1)*(x/2^(b+1))=A at *;generalize hr:x%2^b=r at *;have o1:Go.bits .or .u64 A r=A+r:=F6 (b+1) _ _ ah hAm (by omega) r0 (by omega) (by omega);have o2:Go.bits .or .u64 (2^b) r=2^b+r:=F6 b _ _ (by omega) (Int.emod_self) (by omega) r0 r1 (by omega);have o3:Go.bits .or .u64 A (2^b+r)=A+(2^b+r):=F6 (b+1) _ _ ah hAm (by omega) (by omega) (by omega) (by omega);refine⟨?_,by unfold U;omega⟩;obtain⟨a,ha⟩:=AP0 ah;obtain⟨c,hc⟩:=AP0 r0;obtain⟨p,hpn⟩:=AP0 (APs hp);have hor : ∀u v:Nat,u<2^64->v<2^64->Go.bits .or .u64 (u:Int) (v:Int)=((u ||| v:Nat):Int):=λu v hu hv=>eG u v hu hv
 rw[ha,hc] at o1;rw[hpn,hc] at o2;have b1:=hor a c (by omega) (by omega);have b2:=hor p c (by omega) (by omega);rw[b1] at o1;rw[b2] at o2;rw[ha,hpn,hc,<-o2,hor a (p ||| c) (by omega) (by omega)] at o3;rw[show x=A+r by omega,ha,hc,<-o1,hpn,hor (a ||| c) p (by omega) (by omega),Nat.or_assoc,Nat.or_comm c p,o3,o1,o2];omega
theorem pG (i:Nat):Int.tdiv (i:Int) 64=((i/64:Nat):Int):=by rw[AQd (by omega)];omega
theorem AEL (i:Nat):Int.tmod (i:Int) 64=((i%64:Nat):Int):=by rw[AQr (by omega)];omega
theorem bh {n:Nat} (h:n<=1000000000000):wrap64 (n:Int)=n:=AE (by omega) (by omega)
theorem AEM {n:Nat} (h:n<=1000000000000):IntKind.u64.wrap (n:Int)=n:=DY (by omega) (by omega)
theorem XF {j:Nat} (h:j<=1000000000000):wrap64 ((j:Int)+1)=((j+1:Nat):Int):=by rw[AE (by omega) (by omega)];omega
theorem AAC {b:Nat} (hb:b<=63):shl .u64 1 (b:Int)=2^b:=by
 have:=A7 (a:=b) (b:=63) (by omega);have:=pow_pos b;rw[Ld _ _ (by omega),APr,ARL,AQU (by omega) (by omega)]
theorem pH (l:List Int) {i:Nat} (h:l.length<=i):nv (l.take i)=nv l:=by rw[AP5 h]
theorem uB {a:List Int} (ha:Wl a) {i:Nat} (hi:i<=60000000) (YM:nv a/2^i%2=0) {n:Nat} (hn:a.length<=n) (hn2:i/64<n) (hn3:n<=1000000000) (d:Nat) : ∀(j:Nat) (out:List Int),j+d=n->out.length=j->Ws out->nv out=nv (a.take j)+(if i/64<j then 2^i else 0) ->
 ∃r,Ev (λk=>CW.l0 k a i out (n:Int) j) r/\Ws r/\r.length=n/\nv r=nv a+2^i:=by
 induction d with
 | zero =>
   intro j out hj hlo O8 he;obtain rfl:j=n:=by omega
   refine⟨out,Ev.step (λk=>CW.l0.eq_2 ..) (Ev.AO (by omega) (Ev.same rfl)),O8,hlo, ?_⟩;rw[he,pH a hn,if_pos hn2]
 | succ d ih =>
   intro j out hj hlo O8 he;have hx:U (rd a (j:Int)):=Hl ha.1 _;have key : ∀v:Int,U v->v=rd a (j:Int)+(if i/64=j then 2^(i%64) else 0)-> ∃r,Ev (λk=>CW.l0 k a i (out++ [v]) (n:Int) ((j+1:Nat):Int)) r/\Ws r/\r.length=n/\nv r=nv a+2^i:=by
    intro v hv hve;refine ih (j+1) (out++ [v]) (by omega) (by rw[AP3,hlo];rfl) (RU.2 ⟨O8,JB hv⟩) ?_;rw[IL,he,Jh,hlo,hve];by_cases h1:i/64=j
    · rw[if_pos h1,if_neg (show¬i/64<j by omega),if_pos (show i/64<j+1 by omega)]
      have:(2:Int)^i=Wp j*2^(i%64):=(by rw[Gp,<-AQK,show 64*j+i%64=i by omega]);rw[this,ART];omega
    · rw[if_neg h1,AQ2]
      by_cases h2:i/64<j
      · rw[if_pos h2,if_pos (show i/64<j+1 by omega)]
        omega
      · rw[if_neg h2,if_neg (show¬i/64<j+1 by omega)]
        omega
   have hbl:=tN ha.1 i;rw[YM] at hbl;by_cases hin:j<a.length
   · by_cases h1:i/64=j
     · have hw:=uA hx (b:=i%64) (by omega) (by rw[<-h1];exact hbl.symm)
       obtain⟨r,hr,qF⟩:=key _ hw.2 (by rw[if_pos h1]);refine⟨r,Ev.step (λk=>CW.l0.eq_2 ..) (Ev.AI (by omega) (Ev.AI (by omega) (Ev.AI (by omega) ?_))),qF⟩;rw[pG,AEL,bh (by omega),AEM (by omega),AAC (by omega),hw.1,XF (by omega)];exact Ev.AI (by omega) (Ev.AI (by omega) (Ev.AI (by omega) hr))
     · obtain⟨r,hr,qF⟩:=key (rd a (j:Int)) hx (by rw[if_neg h1];omega)
       refine⟨r,Ev.step (λk=>CW.l0.eq_2 ..) (Ev.AI (by omega) (Ev.AI (by omega) (Ev.AI (by omega) ?_))),qF⟩;rw[pG,bh (by omega),XF (by omega)];exact Ev.AO (by omega) (Ev.AI (by omega) hr)
   · have hz:=AEK (l:=a) (i:=j) (by omega)
     by_cases h1:i/64=j
     · have hw:=uA (x:=0) (by unfold U;omega) (b:=i%64) (by omega) (by rw[ATB];rfl)
       obtain⟨r,hr,qF⟩:=key _ hw.2 (by rw[if_pos h1,hz]);refine⟨r,Ev.step (λk=>CW.l0.eq_2 ..) (Ev.AI (by omega) (Ev.AO (by omega) ?_)),qF⟩;rw[pG,AEL,bh (by omega),AEM (by omega),AAC (by omega),hw.1,XF (by omega)];exact Ev.AI (by omega) (Ev.AI (by omega) (Ev.AI (by omega) hr))
     · obtain⟨r,hr,qF⟩:=key 0 (by unfold U;omega) (by rw[if_neg h1,hz];omega)
       refine⟨r,Ev.step (λk=>CW.l0.eq_2 ..) (Ev.AI (by omega) (Ev.AO (by omega) ?_)),qF⟩;rw[pG,bh (by omega),XF (by omega)];exact Ev.AO (by omega) (Ev.AI (by omega) hr)
theorem SA {a:List Int} (ha:Wl a) (hla:a.length<=1000000) {i:Nat} (hi:i<=60000000) (YM:nv a/2^i%2=0) :
 ∃r,Ev (λk=>CW.f k a i) r/\Ws r/\r.length=max a.length (i/64+1)/\nv r=nv a+2^i:=by
 have hm:mx (a.length:Int) (wrap64 ((wrap64 (Int.tdiv (i:Int) 64))+1))=((max a.length (i/64+1):Nat):Int):=by
  rw[AQd (by omega),AE (n:=(i:Int)/64) (by omega) (by omega),AE (by omega) (by omega)];unfold mx;split<;>omega
 have:=uB ha hi YM (n:=max a.length (i/64+1)) (by omega) (by omega) (by omega) (max a.length (i/64+1)) 0 [] (by omega) rfl GI (by rw[if_neg (by omega)];rfl);unfold CW.f;rw[hm];exact this
theorem pI {a:List Int} (ha:Wl a) (hla:a.length<=2000) {R:Int} (hR:JC (nv a) R) (j:Nat) (hj:j<=100000) : ∀z:List Int,Ws z->z.length<=2000->nv z%2^j=0->nv z<=R->R<nv z+2^j->Ev (λk=>IK.l0 k a z ((j:Int)-1)) (dg R):=by
 induction j with
 | zero =>
   intro z hz hlz hm h1 h2;rw[AQA] at h2;refine Ev.step (λk=>IK.l0.eq_2 ..) (Ev.AO (by omega) ?_);have:=Bu (l:=z) ⟨hz,by omega⟩;rw[show nv z=R by omega] at this;exact Ev.bind this (Ev.same rfl)
 | succ j ih =>
   intro z hz hlz hm h1 h2;have hp:=pow_pos j;have z0:=AN hz;have ej:((j+1:Nat):Int)-1=(j:Int):=(by omega);rw[ej];have hm':=AP9 (nv z) (2^(j+1));rw[hm,AQ2,AQH,AQT] at hm';have YM:nv z/2^j%2=0:=by
    rw[<-hm',ASI _ (by omega)];exact ARI ..
   have hm3:nv z%2^j=0:=by
    rw[<-hm'];exact ARI ..
   refine Ev.step (λk=>IK.l0.eq_2 ..) (Ev.AI (by omega) ?_);obtain⟨r,hr,hrw,hrl,hrn⟩:=SA (a:=z) ⟨hz,by omega⟩ (by omega) (i:=j) (by omega) YM;have AO2:r.length<=2000:=(by omega);refine Ev.bind hr ?_;have M:=M6 (a:=r) (b:=r) ⟨hrw,by omega⟩ ⟨hrw,by omega⟩ (by omega) (by omega);have r0:=AN hrw;have brr:=Fo r0 r0;have br:=E9 hrw;refine Ev.bind M ?_;have C:=JO (a:=dg (nv r*nv r)) (b:=a) (BO (by omega)) ha;rw[AY (AP7 r0 r0)] at C;refine Ev.bind C ?_;rw[AE (by omega) (by omega)];rw[AQH] at h2;by_cases hc:Gk (nv r*nv r) (nv a)<=0
   · refine Ev.AI hc ?_
     have hle:nv r*nv r<=nv a:=by
      unfold Gk at hc;split at hc
      · omega
      · split at hc
        · omega
        · omega
     have hlt:nv r<R+1:=FA (by have:=hR.1;omega) (by have:=hR.2.2;omega);refine ih (by omega) r hrw AO2 ?_ (by omega) (by omega);rw[hrn,ASx];exact hm3
   · refine Ev.AO hc ?_
     have hgt:nv a<nv r*nv r:=by
      unfold Gk at hc;split at hc
      · omega
      · split at hc
        · assumption
        · omega
     have hlt:R<nv r:=FA r0 (by have:=hR.2.1;omega);exact ih (by omega) z hz hlz hm3 h1 (by omega)
theorem nP {a:List Int} (ha:Wl a) (hla:a.length<=1000) {R:Int} (hR:JC (nv a) R):Ev (λk=>IK.f k a) (dg R):=by
 have h0:=AN ha.1;have hb:=E9 ha.1;have hb0:=CM (nv a);refine Ev.bind (Lp ha) ?_;obtain⟨n,hn⟩ : ∃n:Nat,bl (nv a)=n:=⟨(bl (nv a)).toNat,by omega⟩;have e:wrap64 (Int.tdiv (wrap64 (bl (nv a)+1)) 2)=(((n+1)/2+1:Nat):Int)-1:=by
  rw[AE (n:=bl (nv a)+1) (by omega) (by omega),AQd (by omega),AE (by omega) (by omega)];omega
 rw[e];refine pI ha (by omega) hR ((n+1)/2+1) (by omega) [] GI (by simp) (by rfl) hR.1 ?_;have l:=HN (nv a);rw[hn,APr] at l;have hp:=pow_pos ((n+1)/2+1);show R<0+2^((n+1)/2+1);have:R<2^((n+1)/2+1):=by
  refine FA (by omega) ?_;rw[<-AQK];have:=A7 (a:=n) (b:=(n+1)/2+1+((n+1)/2+1)) (by omega);have:=hR.2.1;omega
 omega
def gc (a b:Int):Int:=(Nat.gcd a.toNat b.toNat:Nat)
theorem KQ (a b:Nat):gc a b=(Nat.gcd a b:Nat):=by unfold gc;rw[APr,APr]
theorem L9 (a b:Int):0<=gc a b:=by unfold gc;omega
theorem I3 (a b:Int):gc a b=gc b a:=by unfold gc;rw[ATQ]
theorem I5 {a:Int} (h:0<=a):gc a 0=a:=by
 obtain⟨A,rfl⟩:=AP0 h;have:=KQ A 0;rw[Nat.gcd_zero_right] at this;exact this
theorem AEN {a:Int} (h:0<=a):gc a 1=1:=by
 obtain⟨A,rfl⟩:=AP0 h;have:=KQ A 1;rw[Nat.gcd_one_right] at this;exact this
theorem pJ {a b:Int} (ha:0<=a) (hb:0<=b):gc b (a%b)=gc a b:=by
 obtain⟨A,rfl⟩:=AP0 ha;obtain⟨B,rfl⟩:=AP0 hb;rw[<-Int.natCast_emod,KQ,KQ,ATQ A B,Nat.gcd_rec B A,ATQ]
theorem AIm {x y:Int} (hy:0<=y) (h:y<=x):gc (x-y) y=gc x y:=by
 obtain⟨X,rfl⟩:=AP0 (show 0<=x by omega);obtain⟨Y,rfl⟩:=AP0 hy;rw[show(X:Int)-Y=((X-Y:Nat):Int) by omega,KQ,KQ,Nat.gcd_sub_self_left (by omega)]
theorem AEO {x y c:Int} (hx:0<=x) (hy:0<=y) (hc:0<=c):gc (x*c) (y*c)=gc x y*c:=by
 obtain⟨X,rfl⟩:=AP0 hx;obtain⟨Y,rfl⟩:=AP0 hy;obtain⟨C,rfl⟩:=AP0 hc;rw[<-ARw,<-ARw,KQ,KQ,Nat.gcd_mul_right,ARw]
theorem AEP {x y:Int} (hx:0<=x) (hy:0<=y) (ho:y%2=1) (t:Nat):gc (x*2^t) y=gc x y:=by
 obtain⟨X,rfl⟩:=AP0 hx;obtain⟨Y,rfl⟩:=AP0 hy;have e:(X:Int)*2^t=((X*2^t:Nat):Int):=by rw[ARw,ASo];rfl
 have hc:Nat.Coprime (2^t) Y:=by
  refine Nat.Coprime.pow_left t ?_;have:Nat.gcd 2 Y=Nat.gcd (Y%2) 2:=Nat.gcd_rec 2 Y;rw[show Y%2=1 by omega,Nat.gcd_one_left] at this;exact this
 rw[e,KQ,KQ,Nat.Coprime.gcd_mul_right_cancel X hc]
theorem ABD {x y:Int} (hx:0<=x) (hy:0<=y) (hox:x%2=1) (hoy:y%2=1) (i j:Nat):gc (x*2^i) (y*2^j)=gc x y*2^(min i j):=by
 have key : ∀(x y:Int) (i j:Nat),0<=x->0<=y->x%2=1->i<=j->gc (x*2^i) (y*2^j)=gc x y*2^i:=by
  intro x y i j hx hy hox hij;have e:y*2^j=y*2^(j-i)*2^i:=by rw[AQT,<-AQK,show j-i+i=j by omega]
  have hp:=pow_pos i;have Mo:=pow_pos (j-i);rw[e,AEO hx (AP7 hy (by omega)) (by omega),I3 x,AEP hy hx hox,I3 y]
 rcases ATH i j with h | h
 · rw[key x y i j hx hy hox h,AQB h]
 · rw[I3,key y x j i hy hx hoy h,Nat.min_eq_right h,I3]
theorem PW {a b:Int} (h:0<a\/0<b):0<gc a b:=by
 unfold gc;have:0<Nat.gcd a.toNat b.toNat:=by
  rcases h with h | h
  · exact Nat.gcd_pos_of_pos_left _ (by omega)
  · exact Nat.gcd_pos_of_pos_right _ (by omega)
 omega
theorem He {a b:Int} (ha:0<=a) (hb:0<=b):a/gc a b*gc a b=a/\b/gc a b*gc a b=b:=by
 obtain⟨A,rfl⟩:=AP0 ha;obtain⟨B,rfl⟩:=AP0 hb;rw[KQ];have h1:=Nat.div_mul_cancel (Nat.gcd_dvd_left A B);have h2:=Nat.div_mul_cancel (Nat.gcd_dvd_right A B);exact⟨by exact_mod_cast h1,by exact_mod_cast h2⟩
theorem AF3 {a:Int} (h:0<=a):gc a a=a:=by
 obtain⟨A,rfl⟩:=AP0 h;rw[KQ,Nat.gcd_self]
theorem VX {a b:Int} (ha:0<=a) (hb:0<=b) (h:0<a\/0<b):gc (a/gc a b) (b/gc a b)=1:=by
 have hg:=PW h;have hs:=He ha hb;have h1:0<=a/gc a b:=AQC ha (by omega);have h2:0<=b/gc a b:=AQC hb (by omega);have hm:=AEO h1 h2 (L9 a b);rw[hs.1,hs.2] at hm;have:1*gc a b=gc (a/gc a b) (b/gc a b)*gc a b:=by rw[ARL];exact hm
 exact(ARe (by omega) this).symm
theorem ABE {p q p' q':Int} (hp:0<=p) (hq:0<q) (CH:0<=p') (hq':0<q') (h:p*q'=p'*q):p/gc p q=p'/gc p' q'/\q/gc p q=q'/gc p' q':=by
 have key : ∀(a b a' b':Nat),Nat.gcd a b=1->Nat.gcd a' b'=1->0<b->0<b'->a*b'=a'*b->a=a'/\b=b':=by
  intro a b a' b' h1 h2 hb hb' he;have d1:b∣b':=by
   have:b∣a*b':=⟨a',by rw[he,ARm]⟩;exact ASP (Nat.Coprime.symm h1) this
  have d2:b'∣b:=by
   have:b'∣a'*b:=⟨a,by rw[<-he,ARm]⟩;exact ASP (Nat.Coprime.symm h2) this
  have hbb:b=b':=Nat.dvd_antisymm d1 d2;subst hbb;exact⟨Nat.eq_of_mul_eq_mul_right hb he,rfl⟩
 have g1:=PW (a:=p) (b:=q) (.inr hq);have g2:=PW (a:=p') (b:=q') (.inr hq');have s1:=He hp (APs hq);have s2:=He CH (APs hq');have r1:=VX hp (APs hq) (.inr hq);have r2:=VX CH (APs hq') (.inr hq');have a0:0<=p/gc p q:=AQC hp (by omega);have b0:0<=q/gc p q:=AQC (by omega) (by omega);have a0':0<=p'/gc p' q':=AQC CH (by omega);have b0':0<=q'/gc p' q':=AQC (by omega) (by omega);have bp:q/gc p q≠0:=by
  intro hz;rw[hz,ARD] at s1;omega
 have bp':q'/gc p' q'≠0:=by
  intro hz;rw[hz,ARD] at s2;omega
 generalize p/gc p q=a at *;generalize q/gc p q=b at *;generalize p'/gc p' q'=a' at *;generalize q'/gc p' q'=b' at *;generalize gc p q=g at *;generalize gc p' q'=g' at *;have he:a*b'=a'*b:=by
  have h1:(a*b')*(g*g')=(a'*b)*(g*g'):=by
   have e1:(a*b')*(g*g')=(a*g)*(b'*g'):=(by grind);have e2:(a'*b)*(g*g')=(a'*g')*(b*g):=(by grind);rw[e1,e2,s1.1,s1.2,s2.1,s2.2];exact h
  have:=AQ0 g1 g2;exact ARe (by omega) h1
 obtain⟨A,rfl⟩:=AP0 a0;obtain⟨B,rfl⟩:=AP0 b0;obtain⟨A',rfl⟩:=AP0 a0';obtain⟨B',rfl⟩:=AP0 b0';rw[KQ] at r1 r2;have:=key A B A' B' (by exact_mod_cast r1) (by exact_mod_cast r2) (by omega) (by omega) (by exact_mod_cast he);exact⟨by rw[this.1],by rw[this.2]⟩
theorem uC (n:Nat) : ∀x y:Int,y.toNat<=n->0<=x->0<=y->Ev (λk=>Dw.l0 k x y) (gc x y):=by
 induction n with
 | zero =>
   intro x y hn h0 h1;obtain rfl:y=0:=by omega
   exact Ev.step (λk=>Dw.l0.eq_2 ..) (Ev.AI rfl (Ev.same (by rw[I5 h0])))
 | succ n ih =>
   intro x y hn h0 h1;refine Ev.step (λk=>Dw.l0.eq_2 ..) ?_;by_cases hy:y=0
   · exact Ev.AI hy (Ev.same (by rw[hy,I5 h0]))
   · refine Ev.AO hy ?_
     rw[AQr h0,<-pJ h0 h1];have r0:=AQJ x hy;have r1:=AQG x (show 0<y by omega);exact ih y (x%y) (by omega) h1 r0
theorem ZM {x y:Int} (hx:0<=x) (hy:0<y):gc x y<=y:=by
 have s:=He hx (APs hy);have g:=L9 x y;have hq:0<y/gc x y:=by
  have:=AQC (APs hy) g;rcases(show y/gc x y=0\/0<y/gc x y by omega) with h | h
  · rw[h,ARD] at s
    omega
  · exact h
 have:=AP2 (show 1<=y/gc x y by omega) g;rw[s.2] at this;omega
theorem ABF (n:Nat) : ∀A B:Int,B.toNat<=n->0<=A->0<=B->bl A<=640000000->bl B<=640000000->Ev (λk=>Em.l0 k (dg A) (dg B)) (dg (gc A B)):=by
 have low : ∀A B:Int,0<=A->0<=B->bl A<=640000000->bl B<=640000000-> ¬((dg B).length:Int)>1->Ev (λk=>Em.l0 k (dg A) (dg B)) (dg (gc A B)):=by
  intro A B hA hB bA bB hl;have wA:Wl (dg A):=BO (by omega);have wB:Wl (dg B):=BO (by omega);have hlt:=Oj hB;have hle:=fF (show(dg B).length<=1 by omega);have hW:Wp 1=18446744073709551616:=by decide
  have hB1:B<18446744073709551616:=by omega
  have N:=VI wB;rw[AY hB,if_pos hB1] at N;refine Ev.step (λk=>Em.l0.eq_2 ..) (Ev.AO hl (Ev.bind N ?_));by_cases hz:B=0
  · refine Ev.AI hz (Ev.same ?_)
    rw[hz,I5 hA]
  · have D:=ZL wA (d:=B) (by omega) hB1
    rw[AY hA] at D;have r0:=AQJ A hz;have r1:=AQG A (show 0<B by omega);have W:=uC (A%B).toNat B (A%B) (AP1 _) hB r0;rw[pJ hA hB] at W;have g0:=L9 A B;have g1:=ZM hA (show 0<B by omega);exact Ev.AO hz (Ev.bind D (Ev.bind W (Ev.bind (OU (x:=gc A B) ⟨g0,by omega⟩) (Ev.same rfl))))
 induction n with
 | zero =>
   intro A B hn hA hB bA bB;obtain rfl:B=0:=by omega
   exact low A 0 hA hB bA bB (by rw[Gj];simp)
 | succ n ih =>
   intro A B hn hA hB bA bB;by_cases hl:((dg B).length:Int)>1
   · have hz:B≠0:=λk=>by rw[k,Gj] at hl;simp at hl
     have wA:Wl (dg A):=BO (by omega);have wB:Wl (dg B):=BO (by omega);have lA:=AQ A;have D:=Pg wA wB (by omega);rw[AY hA,AY hB,if_neg hz] at D;have r0:=AQJ A hz;have r1:=AQG A (show 0<B by omega);have br:=B9 (show A%B<=B by omega);refine Ev.step (λk=>Em.l0.eq_2 ..) (Ev.AI hl (Ev.bind D ?_));rw[<-pJ hA hB];exact ih B (A%B) (by omega) hB r0 bB (by omega)
   · exact low A B hA hB bA bB hl
theorem kU {a b:List Int} (ha:Wl a) (hb:Wl b) (hla:a.length<=10000000) (hlb:b.length<=10000000):Ev (λk=>Em.f k a b) (dg (gc (nv a) (nv b))):=by
 have ba:=E9 ha.1;have bb:=E9 hb.1;exact Ev.bind (Cz ha) (Ev.bind (Cz hb) (ABF (nv b).toNat (nv a) (nv b) (AP1 _) (AN ha.1) (AN hb.1) (by omega) (by omega)))
theorem AG1 {a b:Int} (ha:0<=a) (hb:0<=b) {m:Int} (h1:bl a<=m) (h2:bl b<=m):bl (gc a b)<=m:=by
 rcases(show b=0\/0<b by omega) with h | h
 · rw[h,I5 ha];exact h1
 · have:=B9 (ZM ha h)
   omega
theorem PV {a b:List Int} (ha:Wl a) (hb:Wl b) (hla:a.length<=10000000) (hlb:b.length<=10000000):Ev (λk=>Fu.f k a b) (dg (nv a/gc (nv a) (nv b)),dg (nv b/gc (nv a) (nv b))):=by
 have na:=AN ha.1;have nb:=AN hb.1;have ba:=E9 ha.1;have bb:=E9 hb.1;refine Ev.bind (kU ha hb hla hlb) ?_;have g0:=L9 (nv a) (nv b);have bg:=AG1 na nb (m:=640000000) (by omega) (by omega);have wg:Wl (dg (gc (nv a) (nv b))):=BO (by omega);by_cases hz:gc (nv a) (nv b)=0
 · rw[hz,ATL,ATL]
   exact Ev.AI rfl (Ev.same rfl)
 · refine Ev.AO (λk=>hz ((Cq g0).1 (by omega))) ?_
   have D1:=Pg ha wg (by omega);have D2:=Pg hb wg (by omega);rw[AY g0,if_neg hz] at D1 D2;exact Ev.bind D1 (Ev.bind D2 (Ev.same rfl))
theorem jA {a b:List Int} (ha:Wl a) (hb:Wl b) (hla:a.length<=10000000) (hlb:b.length<=10000000):Ev (λk=>GZ.f k a b) (decide (gc (nv a) (nv b)=1)):=by
 have na:=AN ha.1;have nb:=AN hb.1;have ba:=E9 ha.1;have bb:=E9 hb.1;have g0:=L9 (nv a) (nv b);have bg:=AG1 na nb (m:=640000000) (by omega) (by omega);have C:=Ol (a:=dg (gc (nv a) (nv b))) (b:=dg 1) (BO (by omega)) (BO (by decide));rw[AY g0,AY (by omega)] at C;refine Ev.bind (kU ha hb hla hlb) (Ev.bind (OU (x:=1) ⟨by omega,by omega⟩) (Ev.bind C (Ev.same ?_)))
 congr 1
 by_cases h:gc (nv a) (nv b)=1
 · rw[h];rfl
 · rw[decide_eq_false h,beq_eq_false_iff_ne]
   unfold Gk;split
   · omega
   · split<;>omega
theorem XG {l:List Int} (h:Ws l) (h1:(dg (nv l)).length=1):0<l.length/\rd l 0=nv l/\0<nv l/\nv l<18446744073709551616:=by
 have h0:=AN h;have hlt:=Oj h0;rw[h1] at hlt;have hW:Wp 1=18446744073709551616:=by decide
 rw[hW] at hlt;have hne:nv l≠0:=λk=>by rw[k] at h1;cases h1
 cases l with
 | nil=>exact absurd rfl hne
 | cons x l =>
   have hx:=Gq.1 h;have hn:=AN hx.2;have hU:=hx.1;unfold U at hU;rw[Cb] at hlt hne h0 ⊢;refine⟨by simp, ?_,by omega,hlt⟩;show x=_;omega
theorem pK (A:Int) (i:Nat):A/2^i=2*(A/2^(i+1))+A/2^i%2:=by
 rw[AQH,<-AQa (by have:=pow_pos i;omega)];omega
theorem uD {a b:List Int} (ha:Wl a) (hb:Wl b) (hla:a.length<=200000) (hlb:b.length<=200000) (hB:0<nv b) (j:Nat) (hj:j<=20000000) :
 ∀q r:List Int,Ws q->q.length<=400000->Ws r->r.length<=400000->nv q%2^j=0->nv r<nv b->nv a/2^j=nv q/2^j*nv b+nv r ->
  Ev (λk=>Bf.l0 k a b q r ((j:Int)-1)) (dg (nv a/nv b),dg (nv a%nv b)):=by
 induction j with
 | zero =>
   intro q r hq hlq hr hlr hm hlt he;refine Ev.step (λk=>Bf.l0.eq_2 ..) (Ev.AO (by omega) ?_);rw[AQA,AQs,AQs] at he;have WN:=AN hr;have hdiv:=(ASe (a:=nv a) (b:=nv b) (r:=nv r) (q:=nv q) hB).2 ⟨by rw[he,AP6];omega,WN,hlt⟩;rw[hdiv.1,hdiv.2];exact Ev.bind (Bu ⟨hq,by omega⟩) (Ev.bind (Bu ⟨hr,by omega⟩) (Ev.same rfl))
 | succ j ih =>
   intro q r hq hlq hr hlr hm hlt he;have hp:=pow_pos j;have hq0:=AN hq;have WN:=AN hr;have ah:=AN ha.1;have ej:((j+1:Nat):Int)-1=(j:Int):=(by omega);rw[ej];have hm':=AP9 (nv q) (2^(j+1));rw[hm,AQ2,AQH,AQT] at hm';have hqj:nv q/2^j=2*(nv q/(2^j*2)):=by
    conv=>lhs;rw[<-hm']
    rw[ASI _ (by omega)]
   have YM:nv q/2^j%2=0:=(by rw[hqj];exact ARI ..);have hm3:nv q%2^j=0:=(by rw[<-hm'];exact ARI ..);have hstep:=pK (nv a) j;rw[AQH] at hstep he;refine Ev.step (λk=>Bf.l0.eq_2 ..) (Ev.AI (by omega) ?_);have S:=GX (a:=r) ⟨hr,by omega⟩ (by omega) 1;rw[VJ (by omega) (by omega),show(1:Int).toNat=1 from rfl,ARX] at S;refine Ev.bind S ?_;have hbv:=E9 hb.1;have br2:bl (nv r*2)<=12800002:=by
    have:=Fo (x:=nv r) (y:=2) WN (by omega);have:=B9 (show nv r<=nv b by omega);have:bl 2=2:=rfl;omega
   have lr2:=AQ (nv r*2);have j2 : ∀z:List Int,Ws z->z.length<=200002->nv z=nv r*2+nv a/2^j%2->Ev (λk=>Bf.j2 k a b q z (j:Int)) (dg (nv a/nv b),dg (nv a%nv b)):=by
    intro z hz hlz hnz;have APo:0<=nv a/2^j%2/\nv a/2^j%2<2:=(by omega);refine Ev.step (λk=>Bf.j2.eq_2 ..) (Ev.bind (JO (a:=z) ⟨hz,by omega⟩ hb) ?_);have ew:wrap64 ((j:Int)-1)=(j:Int)-1:=AE (by omega) (by omega);rw[ew];have hAj:nv a/2^j=nv q/2^j*nv b+nv z:=by
     rw[hstep,he,hqj,hnz]
     grind
    by_cases hc:Gk (nv z) (nv b)>=0
    · have hge:nv b<=nv z:=by
       unfold Gk at hc;split at hc
       · omega
       · omega
      refine Ev.AI hc ?_;have D:=Rh (a:=z) (b:=b) ⟨hz,by omega⟩ hb (by omega) (by omega) hge;refine Ev.bind D ?_;obtain⟨t,ht,htw,htl,htn⟩:=SA (a:=q) ⟨hq,by omega⟩ (by omega) (i:=j) (by omega) YM;refine Ev.bind ht ?_;have uk:=AN hz;have bz:=E9 hz;have bzb:=B9 (show nv z-nv b<=nv z by omega);have lz:=AQ (nv z-nv b);have hq2:nv t/2^j=nv q/2^j+1:=by
       rw[htn,show nv q+2^j=nv q+2^j*1 by omega,AQj _ _ (by omega)]
      refine ih (by omega) t (dg (nv z-nv b)) htw (by omega) (Qm _) (by omega) ?_ ?_ ?_
      · rw[htn,ASx];exact hm3
      · rw[AY (by omega)];omega
      · rw[AY (by omega),hq2,hAj,ARY]
        omega
    · have AO3:nv z<nv b:=by
       unfold Gk at hc;split at hc
       · assumption
       · split at hc<;>omega
      exact Ev.AO hc (ih (by omega) q z hq hlq hz (by omega) hm3 AO3 hAj)
   refine Ev.AZ (M8 ha (by omega)) ?_;unfold YL;rw[APr];by_cases hbt:nv a/2^j%2=1
   · refine Ev.AI (by simp[hbt]) ?_
     obtain⟨t,ht,htw,htl,htn⟩:=SA (a:=dg (nv r*2)) (BO (by omega)) (by omega) (i:=0) (by omega) (by rw[AY (by omega),AQA,AQs];omega);refine Ev.bind ht (j2 t htw (by omega) ?_);rw[htn,AY (by omega),hbt];rfl
   · refine Ev.AO (by simp[hbt]) (j2 _ (Qm _) (by omega) ?_)
     rw[AY (by omega)];omega
theorem uE {a b:List Int} (ha:Wl a) (hb:Wl b) (hla:a.length<=100000) (hlb:b.length<=100000) (hB:0<nv b):Ev (λk=>Bf.f k a b) (dg (nv a/nv b),dg (nv a%nv b)):=by
 have ah:=AN ha.1;have ba:=E9 ha.1;have bb:=E9 hb.1;have bb0:=Ds hB;have ba0:=CM (nv a);have no:Ev (λk=>Bf.j0 k a b [] false) (dg (nv a/nv b),dg (nv a%nv b)):=by
  refine Ev.step (λk=>Bf.j0.eq_2 ..) (Ev.AO (by decide) ?_);refine Ev.bind (Lp ha) (Ev.bind (Lp hb) ?_);obtain⟨j,hj⟩ : ∃j:Nat,(j:Int)=max 0 (bl (nv a)-bl (nv b)+1):=⟨(max 0 (bl (nv a)-bl (nv b)+1)).toNat,by omega⟩;have e:mx 0 (wrap64 ((wrap64 (bl (nv a)-bl (nv b)))+1))=(j:Int):=by
   rw[AE (n:=bl (nv a)-bl (nv b)) (by omega) (by omega),AE (by omega) (by omega)];unfold mx;generalize bl (nv a)=x at *;generalize bl (nv b)=y at *;split<;>omega
  rw[e,AE (n:=(j:Int)-1) (by omega) (by omega)];have R:=Kz ha (n:=(j:Int)) (by omega);rw[APr] at R;refine Ev.bind R ?_;have hp:=pow_pos j;have r0:0<=nv a/2^j:=AQC ah (by omega);have rle:nv a/2^j<=nv a:=AQv _ ah;have br:=B9 rle;have lr:=AQ (nv a/2^j);refine uD ha hb (by omega) (by omega) hB j (by omega) [] (dg (nv a/2^j)) GI (by simp) (Qm _) (by omega) (by show(0:Int)%_=0;rw[Int.zero_emod]) ?_ ?_
  · rw[AY r0,AQL hp]
    have l1:=HN (nv a);have l2:=Wj hB;have h3:=AP2 l2 (APs hp);rw[<-AQK] at h3;have:=A7 (a:=(bl (nv a)).toNat) (b:=(bl (nv b)-1).toNat+j) (by omega);omega
  · rw[AY r0]
    show _=(0:Int)/_*_+_;rw[ATB,ARD,ASZ]
 refine Ev.bind (Db ha) ?_;by_cases h1:((dg (nv a)).length:Int)=1
 · refine Ev.AI h1 (Ev.bind (Db hb) ?_)
   by_cases h2:((dg (nv b)).length:Int)=1
   · rw[h2]
     obtain⟨a1,a2,a3,a4⟩:=XG ha.1 (by omega);obtain⟨b1,b2,b3,b4⟩:=XG hb.1 (by omega);refine Ev.step (λk=>Bf.j0.eq_2 ..) (Ev.AI rfl (Ev.AI (by omega) (Ev.AI (by omega) ?_)));rw[a2,b2];refine Ev.AO (by omega) ?_;have q0:0<=nv a/nv b:=AQC ah (by omega);have q1:nv a/nv b<=nv a:=AQv _ ah;have r0:=AQJ (nv a) (show nv b≠0 by omega);have r1:=AQG (nv a) hB;rw[AQd ah,AQr ah,DY q0 (by omega)];have T1:=Bu (l:= [nv a/nv b]) ⟨JB (by unfold U;omega),by simp⟩;have T2:=Bu (l:= [nv a%nv b]) ⟨JB (by unfold U;omega),by simp⟩;rw[Jd] at T1 T2;exact Ev.bind T1 (Ev.bind T2 (Ev.same rfl))
   · have:(((dg (nv b)).length:Int)==1)=false:=by rw[beq_eq_false_iff_ne];exact h2
     rw[this];exact no
 · exact Ev.AO h1 no
theorem XH {a g:List Int} (ha:Wl a) (hg:Wl g) (hla:a.length<=100000) (hlg:g.length<=100000):Ev (λk=>JR.f k a g) (dg (nv a/nv g)):=by
 have hg0:=AN hg.1;refine Ev.bind (Db hg) ?_;by_cases hz:nv g=0
 · rw[hz,ATL]
   exact Ev.AI rfl (Ev.same rfl)
 · refine Ev.AO (λk=>hz ((Cq hg0).1 (by omega))) ?_
   have C:=JO hg (b:= [1]) ⟨JB (by unfold U;omega),by decide⟩;rw[Jd] at C;refine Ev.bind C ?_;by_cases h1:nv g=1
   · rw[h1,AQs]
     exact Ev.AI rfl (Ev.bind (Bu ha) (Ev.same rfl))
   · refine Ev.AO ?_ (Ev.bind (uE ha hg hla hlg (by omega)) (Ev.same rfl))
     unfold Gk;split
     · omega
     · split<;>omega
theorem fU {x:Int} (h:0<x) : ∃n:Nat,tz x=n/\x=x/2^n*2^n/\x/2^n%2=1:=by
 obtain⟨n,h1,h2,h3⟩:=Wk h;refine⟨n,h1, ?_,h2⟩;have key : ∀j:Nat,j<=n->x%2^j=0:=by
  intro j;induction j with
  | zero=>intro _;rw[AQA,ARV]
  | succ j ih =>
    intro hj;rw[AQH,Gz x (pow_pos j),h3 j (by omega),ih (by omega)];simp
 have hd:=AP9 x (2^n);rw[key n (AP1 _),AQ2,AP6] at hd;exact hd.symm
theorem pL (n:Nat) : ∀x y:Int,y.toNat<=n->0<x->0<=y->x<18446744073709551616->y<18446744073709551616->Ev (λk=>Ba.l0 k x y) [gc x y]:=by
 induction n with
 | zero =>
   intro x y hn h0 h1 h2 h3;obtain rfl:y=0:=by omega
   refine Ev.step (λk=>Ba.l0.eq_2 ..) (Ev.AO (by omega) (Ev.same ?_));rw[I5 (by omega)]
 | succ n ih =>
   intro x y hn h0 h1 h2 h3;refine Ev.step (λk=>Ba.l0.eq_2 ..) ?_;by_cases hy:y>0
   · refine Ev.AI hy (Ev.AO (by omega) ?_)
     rw[AQr (by omega)];have r0:=AQJ x (show y≠0 by omega);have r1:=AQG x hy;rw[<-pJ (by omega) h1];exact ih y (x%y) (by omega) hy r0 h3 (by omega)
   · obtain rfl:y=0:=by omega
     refine Ev.AO (by omega) (Ev.same ?_);rw[I5 (by omega)]
theorem xY {x:Int} (h:0<x) (hb:bl x<=6400000):Ev (λk=>CO.f k (dg x)) (tz x)/\ ∃n:Nat,tz x=n/\n<=6400000/\x=x/2^n*2^n/\x/2^n%2=1/\0<x/2^n/\x/2^n<=x/\Ev (λk=>BC.f k (dg x) (n:Int)) (dg (x/2^n)):=by
 have w:Wl (dg x):=BO (by omega);have E:=Pn w;rw[AY (by omega)] at E;obtain⟨n,h1,h2,h3⟩:=fU h;have hlt:=kR h;have S:=Kz w (n:=(n:Int)) (by omega);rw[AY (by omega),APr] at S;have hp:=pow_pos n;have q0:0<=x/2^n:=AQC (by omega) (by omega);have q1:x/2^n<=x:=AQv _ (by omega);exact⟨E,n,h1,by omega,h2,h3,by omega,q1,S⟩
theorem pM {c:Int} (hc0:0<=c) (hc:c<=64000) (n:Nat) : ∀x y:Int,(x+y).toNat<=n->0<x->0<y->x%2=1->y%2=1->bl x<=6400000->bl y<=6400000->Ev (λk=>Ba.l1 k c (dg x) (dg y)) (dg (gc x y*2^c.toNat)):=by
 induction n with
 | zero=>intro x y hn h0 h1;omega
 | succ n ih =>
   intro x y hn h0 h1 ho1 ho2 gp qB;have wx:Wl (dg x):=BO (by omega);have wy:Wl (dg y):=BO (by omega);have lx:=AQ x;have ly:=AQ y;have C:=JO wx wy;rw[AY (by omega),AY (by omega)] at C;refine Ev.step (λk=>Ba.l1.eq_2 ..) (Ev.bind C ?_);have more : ∀u v:Int,0<u->0<v->u%2=1->v%2=1->bl u<=6400000->bl v<=6400000->v<u->(u+v).toNat<=n+1 ->
    Ev (λk=>(DL.f k (dg u) (dg v)).bind λt=>(CO.f k t).bind λs=>(BC.f k t s).bind λz=>Ba.l1 k c z (dg v)) (dg (gc u v*2^c.toNat)):=by
    intro u v hu hv hou hov hbu hbv hlt hs;have wu:Wl (dg u):=BO (by omega);have wv:Wl (dg v):=BO (by omega);have lu:=AQ u;have lv:=AQ v;have D:=Rh wu wv (by omega) (by omega) (by rw[AY (by omega),AY (by omega)];omega);rw[AY (by omega),AY (by omega)] at D;have bd:=B9 (show u-v<=u by omega);obtain⟨E,m,hm1,hm2,hm3,hm4,hm5,hm6,S⟩:=xY (x:=u-v) (by omega) (by omega);rw[hm1] at E;refine Ev.bind D (Ev.bind E (Ev.bind S ?_));have bq:=B9 hm6;have g1:gc u v=gc ((u-v)/2^m) v:=by
     rw[<-AIm (by omega) (show v<=u by omega)]
     conv=>lhs;rw[hm3]
     exact AEP (by omega) (by omega) hov m
    rw[g1];exact ih _ v (by omega) hm5 hv hm4 hov (by omega) hbv
   by_cases he:x=y
   · refine Ev.AI (by unfold Gk;rw[if_neg (by omega),if_neg (by omega)]) ?_
     have S:=GX wx (by omega) c;rw[AY (by omega),VJ hc0 (by omega)] at S;refine Ev.bind S (Ev.same ?_);rw[<-he,AF3 (by omega)]
   · by_cases hlt:x<y
     · refine Ev.AO (by unfold Gk;rw[if_pos hlt];omega) (Ev.AI (by unfold Gk;rw[if_pos hlt];omega) ?_)
       rw[I3];exact more y x h1 h0 ho2 ho1 qB gp hlt (by omega)
     · have hcm:Gk x y=1:=by unfold Gk;rw[if_neg hlt,if_pos (by omega)]
       refine Ev.AO (by rw[hcm];omega) (Ev.AO (by rw[hcm];omega) ?_);exact more x y h0 h1 ho1 ho2 gp qB (by omega) (by omega)
theorem uF {a b:List Int} (ha:Wl a) (hb:Wl b) (hla:a.length<=100000) (hlb:b.length<=100000) (ht:0<nv b->tz (nv b)<=64000):Ev (λk=>Ba.f k a b) (dg (gc (nv a) (nv b))):=by
 have ah:=AN ha.1;have hB0:=AN hb.1;have ba:=E9 ha.1;have bb:=E9 hb.1;refine Ev.bind (Db ha) ?_;by_cases hza:nv a=0
 · refine Ev.AI (by rw[hza];rfl) (Ev.bind (Bu hb) (Ev.same ?_))
   rw[hza,I3,I5 hB0]
 · refine Ev.AO (λk=>hza ((Cq ah).1 (by omega))) (Ev.bind (Db hb) ?_)
   by_cases hzb:nv b=0
   · refine Ev.AI (by rw[hzb];rfl) (Ev.bind (Bu ha) (Ev.same ?_))
     rw[hzb,I5 ah]
   · refine Ev.AO (λk=>hzb ((Cq hB0).1 (by omega))) (Ev.bind (Db ha) ?_)
     have long:Ev (λk=>Ba.j0 k a b false) (dg (gc (nv a) (nv b))):=by
      refine Ev.step (λk=>Ba.j0.eq_2 ..) (Ev.AO (by decide) ?_);obtain⟨n,n1,n2,n3⟩:=fU (show 0<nv a by omega);obtain⟨m,m1,m2,m3⟩:=fU (show 0<nv b by omega);have tn:=kR (show 0<nv a by omega);have tm:=kR (show 0<nv b by omega);have Ea:=Pn ha;have Eb:=Pn hb;rw[n1] at Ea tn;have ht:=ht (by omega);rw[m1] at Eb tm ht;have Sa:=Kz ha (n:=(n:Int)) (by omega);have Sb:=Kz hb (n:=(m:Int)) (by omega);rw[APr] at Sa Sb;refine Ev.bind Ea (Ev.bind Eb (Ev.bind Ea (Ev.bind Sa (Ev.bind Eb (Ev.bind Sb ?_)))));have qa:0<=nv a/2^n:=AQC ah (by have:=pow_pos n;omega);have qb:0<=nv b/2^m:=AQC hB0 (by have:=pow_pos m;omega);have qa1:nv a/2^n<=nv a:=AQv _ ah;have qb1:nv b/2^m<=nv b:=AQv _ hB0;have ba1:=B9 qa1;have bb1:=B9 qb1;have hmn:mn (n:Int) (m:Int)=((min n m:Nat):Int):=(by unfold mn;split<;>omega);rw[hmn];have L:=pM (c:=((min n m:Nat):Int)) (by omega) (by omega) (nv a/2^n+nv b/2^m).toNat (nv a/2^n) (nv b/2^m) (AP1 _) (by omega) (by omega) n3 m3 (by omega) (by omega);rw[APr,<-ABD qa qb n3 m3 n m,<-n2,<-m2] at L;exact L
     by_cases h1:((dg (nv a)).length:Int)=1
     · refine Ev.AI h1 (Ev.bind (Db hb) ?_)
       by_cases h2:((dg (nv b)).length:Int)=1
       · rw[h2]
         obtain⟨a1,a2,a3,a4⟩:=XG ha.1 (by omega);obtain⟨b1,b2,b3,b4⟩:=XG hb.1 (by omega);refine Ev.step (λk=>Ba.j0.eq_2 ..) (Ev.AI rfl (Ev.AI (by omega) (Ev.AI (by omega) ?_)));rw[a2,b2];have g1:=PW (a:=nv a) (b:=nv b) (.inl a3);have g2:=He ah hB0;have g3:gc (nv a) (nv b)<=nv a:=by
          have hq:0<nv a/gc (nv a) (nv b):=by
           rcases(show nv a/gc (nv a) (nv b)<=0\/0<nv a/gc (nv a) (nv b) by omega) with h | h
           · have:=AQC ah (show 0<=gc (nv a) (nv b) by omega)
             rw[show nv a/gc (nv a) (nv b)=0 by omega,ARD] at g2;omega
           · exact h
          have:=AP2 (show 1<=nv a/gc (nv a) (nv b) by omega) (APs g1);rw[g2.1] at this;omega
         have L:=pL (nv b).toNat (nv a) (nv b) (AP1 _) a3 (by omega) a4 b4;rw[MI g1,eA (by omega),AQU (by omega) (by omega)];exact L
       · have:(((dg (nv b)).length:Int)==1)=false:=by rw[beq_eq_false_iff_ne];exact h2
         rw[this];exact long
     · exact Ev.AO h1 long
def ab (x:Int):Int:=if x<0 then -x else x
theorem DG (x:Int):0<=ab x:=by unfold ab;split<;>omega
theorem PY {x:Int} :ab x=0↔x=0:=by unfold ab;split<;>omega
theorem YF (x:Int) {d:Int} (h:0<d):ab (x*d)=ab x*d:=by
 unfold ab;by_cases hx:x<0
 · have:=AS3 hx h
   rw[if_pos hx,if_pos this,ARS]
 · have:=AP7 (show 0<=x by omega) (APs h)
   rw[if_neg hx,if_neg (by omega)]
theorem ZN (x:Int) {d:Int} (h:0<d):x*d<0↔x<0:=by
 constructor
 · intro h1
   rcases AQf x 0 with h2 | h2
   · exact h2
   · have:=AP7 h2 (APs h)
     omega
 · intro h1
   exact AS3 h1 h
def Rq (S D:Int):Bool × List Int × List Int:=if S=0 then(false,[],[1]) else(decide (S<0),dg (ab S/gc (ab S) D),dg (D/gc (ab S) D))
theorem dh {S D S' D':Int} (hD:0<D) (hD':0<D') (h:S*D'=S'*D):Rq S D=Rq S' D':=by
 have n1:=ZN S hD';have n2:=ZN S' hD;have a1:=YF S hD';have a2:=YF S' hD;rw[h] at n1 a1;have z:S=0↔S'=0:=by
  have z1:= @PY S;have z2:= @PY S';constructor
  · intro k
    rw[k,ARD] at h;exact(ASn.1 h.symm).resolve_right (by omega)
  · intro k
    rw[k,ARD] at h;exact(ASn.1 h).resolve_right (by omega)
 unfold Rq;by_cases hz:S=0
 · rw[if_pos hz,if_pos (z.1 hz)]
 · rw[if_neg hz,if_neg (λk=>hz (z.2 k))]
   have hl:=ABE (DG S) hD (DG S') hD' (by rw[<-a1,a2]);rw[hl.1,hl.2]
   congr 1
   exact decide_eq_decide.2 (n1.symm.trans n2)
theorem y9 {a b:Int} (ha:0<=a) (hb:0<b):a/gc a b<=a/\b/gc a b<=b/\0<b/gc a b/\0<=a/gc a b:=by
 have g:=PW (a:=a) (b:=b) (.inr hb);have s:=He ha (APs hb);have h0:0<=b/gc a b:=AQC (by omega) (by omega);refine⟨AQv _ ha,AQv _ (by omega), ?_,AQC ha (by omega)⟩;rcases(show b/gc a b=0\/0<b/gc a b by omega) with h | h
 · rw[h,ARD] at s
   omega
 · exact h
theorem YP:dg 1= [1]:=by decide
theorem TN (S:Int) {D:Int} (hD:0<D) : ∃N E:Int,Rq S D=(decide (S<0),dg N,dg E)/\0<=N/\0<E/\N<=ab S/\E<=D/\N*D=ab S*E/\(N=0↔S=0)/\gc N E=1:=by
 unfold Rq;by_cases hz:S=0
 · rw[if_pos hz]
   refine⟨0,1, ?_,by omega,by omega,DG S,by omega, ?_,by omega,AEN (by omega)⟩
   · rw[hz,Gj,YP];rfl
   · rw[hz];simp[ab]
 · rw[if_neg hz]
   have h0:=DG S;have hz2:= @PY S;obtain⟨g1,g2,g3,g4⟩:=y9 h0 hD;have g:=PW (a:=ab S) (b:=D) (.inr hD);have s:=He h0 (APs hD);have r:=VX h0 (APs hD) (.inr hD);refine⟨_,_,rfl,g4,g3,g1,g2, ?_, ?_,r⟩
   · generalize gc (ab S) D=c at *
     generalize hN:ab S/c=N at *;generalize hE:D/c=E at *;rw[<-s.1,<-s.2]
     grind
   · constructor
     · intro k
       rw[k,ARD] at s;exact hz2.1 s.1.symm
     · intro k
       exact absurd k hz
def GQ (s:Bool) (N:Int):Int:=if s then -N else N
theorem kV {S D N E:Int} (hN:N*D=ab S*E) (h0:N=0↔S=0):GQ (decide (S<0)) N*D=S*E:=by
 unfold GQ;unfold ab at hN;by_cases h:S<0
 · rw[if_pos h] at hN
   rw[decide_eq_true h,if_pos rfl,ARS,hN,ARS];omega
 · rw[if_neg h] at hN
   rw[decide_eq_false h,if_neg (by decide),hN]
theorem ACk (neg:Bool) {n d:Int} (hn:0<n):Rq (GQ neg n) d=(neg,dg (n/gc n d),dg (d/gc n d)):=by
 cases neg
 · show Rq n d=_
   have:ab n=n:=(by unfold ab;rw[if_neg (by omega)]);unfold Rq;rw[if_neg (show¬n=0 by omega),decide_eq_false (show¬n<0 by omega),this]
 · show Rq (-n) d=_
   have:ab (-n)=n:=(by unfold ab;rw[if_pos (by omega)];omega);unfold Rq;rw[if_neg (show¬ -n=0 by omega),decide_eq_true (show -n<0 by omega),this]
theorem AF4 (neg:Bool) (d:Int):Rq (GQ neg 0) d=(false,[],[1]):=by
 unfold Rq GQ;cases neg<;>rfl
theorem pN {a b:List Int} (neg:Bool) (ha:Wl a) (hb:Wl b) (hla:a.length<=100000) (hlb:b.length<=100000) (hB:0<nv b) (ht:tz (nv b)<=64000):Ev (λk=>FQ.f k neg a b) (Rq (GQ neg (nv a)) (nv b)):=by
 have ah:=AN ha.1;refine Ev.bind (Db ha) ?_;by_cases hz:nv a=0
 · rw[hz,AF4]
   exact Ev.AI rfl (Ev.same rfl)
 · rw[ACk neg (by omega)]
   refine Ev.AO (λk=>hz ((Cq ah).1 (by omega))) (Ev.bind (uF ha hb hla hlb (λ_=>ht)) ?_);have g:=L9 (nv a) (nv b);have gle:gc (nv a) (nv b)<=nv a:=by
    have s:=He ah (APs hB);have l:=y9 (a:=nv b) (b:=nv a) (APs hB) (by omega);rw[I3] at l;have:=AP2 (show 1<=nv a/gc (nv a) (nv b) by omega) g;rw[s.1] at this;omega
   have ba:=E9 ha.1;have bg:=B9 gle;have lg:=AQ (gc (nv a) (nv b));have P1:=XH ha (g:=dg (gc (nv a) (nv b))) (BO (by omega)) hla (by omega);have P2:=XH hb (g:=dg (gc (nv a) (nv b))) (BO (by omega)) hlb (by omega);rw[AY g] at P1 P2;exact Ev.bind P1 (Ev.bind P2 (Ev.same rfl))
theorem Pp {a b:List Int} (neg:Bool) (ha:Wl a) (hb:Wl b) (hla:a.length<=1000) (hlb:b.length<=1000) (hB:0<nv b):Ev (λk=>FQ.f k neg a b) (Rq (GQ neg (nv a)) (nv b)):=by
 have bb:=E9 hb.1;exact pN neg ha hb (by omega) (by omega) hB (by have:=kR hB;omega)
def Fit (S D:Int):Prop:=0<D/\bl (ab S)<=14000/\bl D<=14000
theorem dZ {S D:Int} (h:Fit S D) : ∃N E:Int,Rq S D=(decide (S<0),dg N,dg E)/\0<=N/\0<E/\bl N<=14000/\bl E<=14000/\GQ (decide (S<0)) N*D=S*E/\(N=0↔S=0):=by
 obtain⟨N,E,h1,h2,h3,h4,h5,h6,h7,h8⟩:=TN S h.1;have:=B9 h4;have:=B9 h5;have:=h.2;exact⟨N,E,h1,h2,h3,by omega,by omega,kV h6 h7,h7⟩
theorem AFE {n d:Int} (neg:Bool) (hn:0<=n) (hd:0<d) (bn:bl n<=60000) (bd:bl d<=60000):Ev (λk=>FQ.f k neg (dg n) (dg d)) (Rq (GQ neg n) d):=by
 have ln:=AQ n;have ld:=AQ d;have:=Pp neg (a:=dg n) (b:=dg d) (BO (by omega)) (BO (by omega)) (by omega) (by omega) (by rw[AY (by omega)];exact hd)
 rwa [AY hn,AY (by omega)] at this
theorem AFA {S D:Int} (h:Fit S D):Fit (-S) D:=by
 have:ab (-S)=ab S:=by unfold ab;split<;>split<;>omega
 unfold Fit;rw[this];exact h
def AFB (x:Int):Int:=if x=0 then 0 else if x<0 then -1 else 1
theorem jB {a b:List Int} (hl:a.length=b.length) (ha:a.length<=1000000) (d:Nat) : ∀i:Nat,i+d=a.length->a.take i=b.take i->Ev (λk=>Cs.l0 k a b (a.length:Int) i) (decide (a=b)):=by
 induction d with
 | zero =>
   intro i hi he;refine Ev.step (λk=>Cs.l0.eq_2 ..) (Ev.AO (by omega) (Ev.same ?_));rw[AP5 (by omega),AP5 (by omega)] at he;rw[decide_eq_true he]
 | succ d ih =>
   intro i hi he;have e:wrap64 ((i:Int)+1)=((i+1:Nat):Int):=(by rw[AE (by omega) (by omega)];omega);refine Ev.step (λk=>Cs.l0.eq_2 ..) (Ev.AI (by omega) (Ev.AI (by omega) (Ev.AI (by omega) (Ev.AI (by omega) ?_))));by_cases h:rd a (i:Int)=rd b (i:Int)
   · refine Ev.AI h ?_
     rw[e];exact ih (i+1) (by omega) (by rw[IM (by omega),IM (by omega),he,h])
   · refine Ev.AO h (Ev.same ?_)
     rw[decide_eq_false (λk=>h (by rw[k]))]
theorem UZ {a b:List Int} (ha:a.length<=1000000):Ev (λk=>Cs.f k a b) (decide (a=b)):=by
 by_cases h:(a.length:Int)=(b.length:Int)
 · exact Ev.AI h (jB (by omega) ha a.length 0 (by omega) rfl)
 · exact Ev.AO h (Ev.same (by rw[decide_eq_false (λk=>h (by rw[k]))]))
theorem Wv {s s':Bool} {a b a' b':List Int} (ha:a.length<=1000000) (hb:b.length<=1000000):Ev (λk=>G1.f k s a b s' a' b') (decide ((s,a,b)=(s',a',b'))):=by
 by_cases hs:s=s'
 · refine Ev.AI (by rw[hs];simp) (Ev.bind (UZ ha) ?_)
   by_cases h1:a=a'
   · refine Ev.AI (decide_eq_true h1) (Ev.bind (UZ hb) (Ev.same ?_))
     congr 1
     rw[hs,h1];simp
   · refine Ev.AO (by rw[decide_eq_false h1];decide) (Ev.same ?_)
     rw[decide_eq_false];simp[h1]
 · refine Ev.AO (by simp[hs]) (Ev.same ?_)
   rw[decide_eq_false];simp[hs]
def RR (neg:Bool) (a b:List Int):Prop:=dg (nv a)=a/\dg (nv b)=b/\b.length≠0/\(neg=true->a.length≠0)/\gc (nv a) (nv b)=1
theorem nY {neg:Bool} {a b:List Int} (hb:Ws b) (h:RR neg a b):0<nv b:=by
 obtain⟨h1,h2,h3,h4,h5⟩:=h;have nb:=AN hb;rcases(show nv b=0\/0<nv b by omega) with k | k
 · exfalso;apply h3;rw[<-h2,k,Gj];rfl
 · exact k
theorem AJR {neg:Bool} {a b:List Int} (ha:Ws a) (hb:Ws b) (h:RR neg a b):Rq (GQ neg (nv a)) (nv b)=(neg,a,b):=by
 have hB:=nY hb h;obtain⟨h1,h2,h3,h4,h5⟩:=h;have na:=AN ha;rcases(show nv a=0\/0<nv a by omega) with k | k
 · have ea:a= []:=by rw[<-h1,k,Gj]
   have en:neg=false:=by
    cases neg
    · rfl
    · exact absurd (by rw[ea];rfl) (h4 rfl)
   rw[k,I3,I5 (by omega)] at h5;rw[k,en,ea,<-h2,h5,YP];rfl
 · rw[ACk neg k,h5,AQs,AQs,h1,h2]
theorem pO {a b:List Int} (neg:Bool) (ha:Wl a) (hb:Wl b) (hla:a.length<=10000000) (hlb:b.length<=10000000) (hB:0<nv b):Ev (λk=>FC.f k neg a b) (Rq (GQ neg (nv a)) (nv b)):=by
 have na:=AN ha.1;refine Ev.bind (PV ha hb hla hlb) ?_;dsimp only;rcases(show nv a=0\/0<nv a by omega) with h | h
 · have e0:gc (nv a) (nv b)=nv b:=by rw[h,I3];exact I5 (by omega)
   have e1:Rq (GQ neg (nv a)) (nv b)=(false,[],[1]):=by
    rw[h];unfold Rq GQ;cases neg<;>rfl
   rw[e0,e1,h,ATB,Int.ediv_self (by omega),Gj,YP];cases neg
   · exact Ev.AO (by decide) (Ev.same rfl)
   · exact Ev.AI rfl (Ev.same rfl)
 · have hs:=He (show 0<=nv a by omega) (show 0<=nv b by omega)
   have hg:=PW (a:=nv a) (b:=nv b) (.inl h);have hq:0<nv a/gc (nv a) (nv b):=by
    rcases AQf 0 (nv a/gc (nv a) (nv b)) with k | k
    · exact k
    · have:=Int.mul_nonpos_of_nonpos_of_nonneg k (show 0<=gc (nv a) (nv b) by omega)
      omega
   have e1:Rq (GQ neg (nv a)) (nv b)=(neg,dg (nv a/gc (nv a) (nv b)),dg (nv b/gc (nv a) (nv b))):=by
    unfold Rq;have:GQ neg (nv a)≠0/\ab (GQ neg (nv a))=nv a/\decide (GQ neg (nv a)<0)=neg:=by
     cases neg
     · refine⟨by unfold GQ;simp;omega,by unfold ab GQ;simp;omega,by unfold GQ;simp;omega⟩
     · refine⟨by unfold GQ;simp;omega,by unfold ab GQ;simp;omega,by unfold GQ;simp;omega⟩
    rw[if_neg this.1,this.2.1,this.2.2]
   rw[e1];have hl:dg (nv a/gc (nv a) (nv b))≠ []:=(by rw[MI hq];exact List.cons_ne_nil _ _);cases neg
   · exact Ev.AO (by decide) (Ev.same rfl)
   · refine Ev.AI rfl (Ev.same ?_)
     have:0<(dg (nv a/gc (nv a) (nv b))).length:=List.length_pos_iff.2 hl;rw[decide_eq_true (show((dg (nv a/gc (nv a) (nv b))).length:Int)>0 by omega)]
theorem VF {a b:List Int} (neg:Bool) (ha:Wl a):Ev (λk=>HZ.f k neg a b) (if nv a=0 then 0 else if neg then -1 else 1):=by
 have na:=AN ha.1;refine Ev.bind (E8 ha) ?_;by_cases h:nv a=0
 · rw[if_pos h,h]
   exact Ev.AI rfl (Ev.same rfl)
 · rw[if_neg h]
   have:=Ds (x:=nv a) (by omega);refine Ev.AO (by omega) ?_;cases neg
   · exact Ev.AO (by decide) (Ev.same rfl)
   · exact Ev.AI rfl (Ev.same rfl)
theorem xZ {x y:Int} (hx:0<=x) (hy:0<=y) (bx:bl x<=600000000) (by_:bl y<=600000000):Ev (λk=>ML.f k (dg x) (dg y)) (decide (x=y)):=by
 have w1:Wl (dg x):=BO (by omega);have w2:Wl (dg y):=BO (by omega);have R1:=Ho w1;have R2:=Ho w2;have C:=Ol w1 w2;rw[AY hx,decide_eq_true rfl] at R1;rw[AY hy,decide_eq_true rfl] at R2;rw[AY hx,AY hy] at C;refine Ev.AZ R1 (Ev.AI rfl (Ev.AZ R2 (Ev.AI rfl (Ev.bind C (Ev.same ?_)))))
 congr 1
 unfold Gk;by_cases h:x=y
 · rw[decide_eq_true h,if_neg (by omega),if_neg (by omega)];rfl
 · rw[decide_eq_false h]
   split
   · rfl
   · rw[if_pos (by omega)];rfl
theorem kW {x y:Int} (s s':Bool) (hx:0<=x) (hy:0<=y) (bx:bl x<=600000000) (by_:bl y<=600000000) :
 ∃(t:Bool) (m:Int),Ev (λk=>ND.f k s (dg x) s' (dg y)) (t,dg m)/\0<=m/\bl m<=600000001/\GQ t m=GQ s x+GQ s' y:=by
 have w1:Wl (dg x):=BO (by omega);have w2:Wl (dg y):=BO (by omega);have l1:=AQ x;have l2:=AQ y;by_cases hs:(s==s')=true
 · have e:=eq_of_beq hs
   have A:=YN w1 w2 (by omega) (by omega);rw[AY hx,AY hy] at A;refine⟨s,x+y,Ev.AI hs (Ev.bind A (Ev.same rfl)),by omega, ?_, ?_⟩
   · have:=YG hx hy (m:=600000000) bx by_;omega
   · rw[<-e];unfold GQ;cases s<;>simp<;>omega
 · have e:s'= !s:=by cases s<;>cases s'<;>simp_all
   by_cases hge:y<=x
   · have S:=Ya w1 w2 (by rw[AY hx,AY hy];exact hge)
     rw[AY hx,AY hy] at S;refine⟨s,x-y,Ev.AO hs (Ev.bind S (Ev.AI rfl (Ev.same rfl))),by omega, ?_, ?_⟩
     · have:=B9 (show x-y<=x by omega);omega
     · rw[e];unfold GQ;cases s<;>simp<;>omega
   · have N:=xN w1 w2 (by rw[AY hx,AY hy];omega)
     have S:=Ya w2 w1 (by rw[AY hx,AY hy];omega);rw[AY hx,AY hy] at S;refine⟨s',y-x,Ev.AO hs (Ev.bind N (Ev.AO (by decide) (Ev.bind S (Ev.same rfl)))),by omega, ?_, ?_⟩
     · have:=B9 (show y-x<=y by omega);omega
     · rw[e];unfold GQ;cases s<;>simp<;>omega
theorem PX {x:Int} (hx:0<x) (bx:bl x<=600000000):Ev (λk=>Hi.f k (dg x)) (dg x):=by
 have B:=E8 (l:=dg x) (BO (by omega));rw[AY (by omega)] at B;have:=Ds hx;exact Ev.bind B (Ev.AO (by omega) (Ev.same rfl))
theorem YH {n d:Int} (neg:Bool) (hn:0<=n) (hd:0<d) (bn:bl n<=630000000) (bd:bl d<=630000000):Ev (λk=>FC.f k neg (dg n) (dg d)) (Rq (GQ neg n) d):=by
 have ln:=AQ n;have ld:=AQ d;have:=pO neg (a:=dg n) (b:=dg d) (BO (by omega)) (BO (by omega)) (by omega) (by omega) (by rw[AY (by omega)];exact hd)
 rwa [AY hn,AY (by omega)] at this
def AAj (S D:Int):Prop:=0<D/\bl (ab S)<=100000000/\bl D<=100000000
theorem Fit.big {S D:Int} (h:Fit S D):AAj S D:=⟨h.1,by have:=h.2.1;omega,by have:=h.2.2;omega⟩
theorem bO {S D:Int} (h:AAj S D) : ∃N E:Int,Rq S D=(decide (S<0),dg N,dg E)/\0<=N/\0<E/\bl N<=100000000/\bl E<=100000000/\GQ (decide (S<0)) N*D=S*E/\(N=0↔S=0):=by
 obtain⟨N,E,h1,h2,h3,h4,h5,h6,h7,h8⟩:=TN S h.1;have:=B9 h4;have:=B9 h5;have:=h.2;exact⟨N,E,h1,h2,h3,by omega,by omega,kV h6 h7,h7⟩
theorem ABG {S D S' D':Int} (h:AAj S D) (h':AAj S' D'):Ev (λk=>IF.f k (Rq S D).1 (Rq S D).2.1 (Rq S D).2.2 (Rq S' D').1 (Rq S' D').2.1 (Rq S' D').2.2) (Rq (S*D'+S'*D) (D*D')):=by
 obtain⟨N,E,h1,h2,h3,h4,h5,h6,h7⟩:=bO h;obtain⟨N',E',k1,k2,k3,k4,k5,k6,k7⟩:=bO h';rw[h1,k1];dsimp only;have dd:0<D*D':=AQ0 h.1 h'.1;refine Ev.bind (xZ (APs h3) (APs k3) (by omega) (by omega)) ?_;by_cases hE:E=E'
 · refine Ev.AI (decide_eq_true hE) ?_
   obtain⟨t,m,q1,q2,q3,q4⟩:=kW (decide (S<0)) (decide (S'<0)) h2 k2 (by omega) (by omega);refine Ev.bind q1 (Ev.bind (PX h3 (by omega)) (Ev.bind (YH t q2 h3 (by omega) (by omega)) (Ev.same ?_)));rw[q4]
   congr 1
   have e:Rq (GQ (decide (S<0)) N+GQ (decide (S'<0)) N') E=Rq (S*D'+S'*D) (D*D'):=by
    refine dh h3 dd ?_;generalize GQ (decide (S<0)) N=σ at *;generalize GQ (decide (S'<0)) N'=σ' at *;subst hE;have a1:(σ+σ')*(D*D')=(σ*D)*D'+(σ'*D')*D:=(by grind);have a2:(S*D'+S'*D)*E=(S*E)*D'+(S'*E)*D:=(by grind);rw[a1,a2,h6,k6]
   rw[e]
 · refine Ev.AO (by simp[hE]) ?_
   have lN:=AQ N;have lE:=AQ E;have lN':=AQ N';have lE':=AQ E';have M1:=Po (a:=dg N) (b:=dg E') (BO (by omega)) (BO (by omega)) (by omega) (by omega);have M2:=Po (a:=dg N') (b:=dg E) (BO (by omega)) (BO (by omega)) (by omega) (by omega);have M3:=Po (a:=dg E) (b:=dg E') (BO (by omega)) (BO (by omega)) (by omega) (by omega);rw[AY h2,AY (APs k3)] at M1;rw[AY k2,AY (APs h3)] at M2;rw[AY (APs h3),AY (APs k3)] at M3;have b1:=Fo h2 (APs k3);have b2:=Fo k2 (APs h3);have b3:=Fo (APs h3) (APs k3);have x0:0<=N*E':=AP7 h2 (APs k3);have y0:0<=N'*E:=AP7 k2 (APs h3);have d0:0<E*E':=AQ0 h3 k3;obtain⟨t,m,q1,q2,q3,q4⟩:=kW (decide (S<0)) (decide (S'<0)) x0 y0 (by omega) (by omega);refine Ev.bind M1 (Ev.bind M2 (Ev.bind q1 (Ev.bind M3 (Ev.bind (PX d0 (by omega)) (Ev.bind (YH t q2 d0 (by omega) (by omega)) (Ev.same ?_))))));rw[q4]
   congr 1
   have e:Rq (GQ (decide (S<0)) (N*E')+GQ (decide (S'<0)) (N'*E)) (E*E')=Rq (S*D'+S'*D) (D*D'):=by
    refine dh d0 dd ?_;have m1:GQ (decide (S<0)) (N*E')=GQ (decide (S<0)) N*E':=(by unfold GQ;cases decide (S<0)<;>simp[ARS]);have m2:GQ (decide (S'<0)) (N'*E)=GQ (decide (S'<0)) N'*E:=(by unfold GQ;cases decide (S'<0)<;>simp[ARS]);rw[m1,m2];generalize GQ (decide (S<0)) N=σ at *;generalize GQ (decide (S'<0)) N'=σ' at *;have a1:(σ*E'+σ'*E)*(D*D')=(σ*D)*(D'*E')+(σ'*D')*(D*E):=(by grind);have a2:(S*D'+S'*D)*(E*E')=(S*E)*(D'*E')+(S'*E')*(D*E):=(by grind);rw[a1,a2,h6,k6]
   rw[e]
theorem jy {S D S' D':Int} (h:Fit S D) (h':Fit S' D'):Ev (λk=>IF.f k (Rq S D).1 (Rq S D).2.1 (Rq S D).2.2 (Rq S' D').1 (Rq S' D').2.1 (Rq S' D').2.2) (Rq (S*D'+S'*D) (D*D')):=ABG h.big h'.big
theorem Wu {n:Int} (h0 : -9223372036854775808<=n) (h1:n<=9223372036854775807):Ev (λk=>R0.f k n) (Rq n 1):=by
 have g:ab n/gc (ab n) 1=ab n/\(1:Int)/gc (ab n) 1=1:=by
  rw[AEN (DG n),AQs];exact⟨rfl,rfl⟩
 by_cases hn:n<0
 · have e:IntKind.u64.wrap (-(IntKind.u64.wrap n))= -n:=by
    show Int.emod _ _=_;have:IntKind.u64.wrap n=n+18446744073709551616:=by
     show n%18446744073709551616=_;omega
    rw[this];show(-(n+18446744073709551616))%18446744073709551616=_;omega
   refine Ev.AI hn ?_;rw[e];refine Ev.bind (OU (by unfold U;omega)) (Ev.AZ (a:= [1]) rfl (Ev.same ?_));unfold Rq;rw[if_neg (by omega),g.1,g.2,YP,decide_eq_true hn];unfold ab;rw[if_pos hn]
 · refine Ev.AO hn ?_
   rw[DY (n:=n) (by omega) (by omega)];refine Ev.bind (OU (by unfold U;omega)) (Ev.AZ (a:= [1]) rfl (Ev.same ?_));unfold Rq;by_cases hz:n=0
   · rw[if_pos hz,hz,Gj]
   · rw[if_neg hz,g.1,g.2,YP,decide_eq_false hn]
     unfold ab;rw[if_neg hn]
theorem Y9 {a b:List Int} (neg:Bool) (ha:Wl a) (hb:Wl b) (hla:a.length<=1000) (hlb:b.length<=1000) : ∃r,Ev (λk=>GK.f k neg a b) r/\(r=true↔RR neg a b):=by
 have C:=jA ha hb (by omega) (by omega);unfold RR;by_cases h1:dg (nv a)=a
 · by_cases h2:dg (nv b)=b
   · have pre : ∀ {r:Bool},Ev (λk=>if(b.length:Int)>0 then((GZ.f k a b).bind λt=>(if t=true then(if neg=true then(some (!((a.length:Int)==0))) else(some (!false))) else(some false))) else(some false)) r->Ev (λk=>GK.f k neg a b) r:=λh =>
      Ev.AZ (Ho ha) (Ev.AI (decide_eq_true h1) (Ev.AZ (Ho hb) (Ev.AI (decide_eq_true h2) h)))
     by_cases h3:b.length=0
     · exact⟨false,pre (Ev.AO (by omega) (Ev.same rfl)),by simp[h3]⟩
     · by_cases h5:gc (nv a) (nv b)=1
       · rw[decide_eq_true h5] at C
         cases neg
         · exact⟨true,pre (Ev.AI (by omega) (Ev.bind C (Ev.AI rfl (Ev.AO (by decide) (Ev.same rfl))))),by simp[h1,h2,h3,h5]⟩
         · by_cases h4:a.length=0
           · exact⟨false,pre (Ev.AI (by omega) (Ev.bind C (Ev.AI rfl (Ev.AI rfl (Ev.same (by rw[h4];rfl)))))),by simp[h4]⟩
           · exact⟨true,pre (Ev.AI (by omega) (Ev.bind C (Ev.AI rfl (Ev.AI rfl (Ev.same (by rw[beq_eq_false_iff_ne.2 (show(a.length:Int)≠0 by omega)];rfl)))))),by simp[h1,h2,h3,h4,h5]⟩
       · rw[decide_eq_false h5] at C
         exact⟨false,pre (Ev.AI (by omega) (Ev.bind C (Ev.AO (by decide) (Ev.same rfl)))),by simp[h5]⟩
   · exact⟨false,Ev.AZ (Ho ha) (Ev.AI (decide_eq_true h1) (Ev.AZ (Ho hb) (Ev.AO (by simp[h2]) (Ev.same rfl)))),by simp[h2]⟩
 · exact⟨false,Ev.AZ (Ho ha) (Ev.AO (by simp[h1]) (Ev.same rfl)),by simp[h1]⟩
theorem VO {n:Int} (h0 : -9223372036854775808<=n) (h1:n<=9223372036854775807):Ev (λk=>Kh.f k n) (Rq n 1):=by
 have w1:Wl [1]:=⟨JB (by unfold U;omega),by decide⟩;by_cases hn:n<0
 · have e:IntKind.u64.wrap (-(IntKind.u64.wrap n))= -n:=by
    have:IntKind.u64.wrap n=n+18446744073709551616:=by
     show n%18446744073709551616=_;omega
    rw[this];show(-(n+18446744073709551616))%18446744073709551616=_;omega
   refine Ev.AI hn ?_;rw[e];have M:=Pp true (a:= [-n]) (b:= [1]) ⟨JB (by unfold U;omega),by simp⟩ w1 (by simp) (by decide) (by rw[Jd];omega);rw[Jd,Jd,show GQ true (-n)=n by unfold GQ;simp] at M;exact Ev.bind M (Ev.same rfl)
 · refine Ev.AO hn ?_
   rw[DY (n:=n) (by omega) (by omega)];have M:=Pp false (a:= [n]) (b:= [1]) ⟨JB (by unfold U;omega),by simp⟩ w1 (by simp) (by decide) (by rw[Jd];omega);rw[Jd,Jd,show GQ false n=n by unfold GQ;simp] at M;exact Ev.bind M (Ev.same rfl)
theorem wk {S D:Int} (h:Fit S D):(Rq S D).2.1.length<=300/\(Rq S D).2.2.length<=300/\Wl (Rq S D).2.1/\Wl (Rq S D).2.2:=by
 obtain⟨N,E,h1,h2,h3,h4,h5,h6,h7⟩:=dZ h;have a:=AQ N;have b:=AQ E;rw[h1];dsimp only;exact⟨by omega,by omega,BO (by omega),BO (by omega)⟩
end Go.Proofs.YtjocbnjpjihpnaaGreat.M
