/- What the functions answer, over plain numbers. -/
import Derived.Laws.BitsLemmas
import Derived.Test.YtjocbnjpjihpnaaGreatWWa
import Derived.Test.YtjocbnjpjihpnaaGreatBB
namespace Go.Proofs.YtjocbnjpjihpnaaGreat.M
open Go.RowKit Go.Proofs.YtjocbnjpjihpnaaGreat.P Go.Proofs.YtjocbnjpjihpnaaGreatW.AH Go.Proofs.YtjocbnjpjihpnaaGreatW.AX Go.Proofs.YtjocbnjpjihpnaaGreatW.Ad
set_option linter.unusedVariables false
theorem wu (n:Int):IntKind.u64.wrap n=n%18446744073709551616:=by simp[IntKind.wrap,IntKind.bits,IntKind.signed]
theorem DC {n:Int} (h0:0<=n) (h1:n<18446744073709551616):IntKind.u64.wrap n=n:=by rw[wu];omega
theorem AG {n:Int} (h0 : -9223372036854775808<=n) (h1:n<=9223372036854775807):wrap64 n=n:=by unfold wrap64;omega
theorem iE : ∀n:Int,0<=n->n<2^64->IntKind.u64.wrap n=n:=λn h0 h1=>DC h0 (by omega)
theorem wf_u64 {x:Int} (h:(Lit.int .u64 x).wf=true):0<=x/\x<18446744073709551616:=by
 simp[Lit.wf,Go.IntKind.min,IntKind.max,IntKind.bits,IntKind.signed] at h;omega
theorem wf_i64 {x:Int} (h:(Lit.int .i64 x).wf=true) : -9223372036854775808<=x/\x<=9223372036854775807:=by
 simp[Lit.wf,Go.IntKind.min,IntKind.max,IntKind.bits,IntKind.signed] at h;omega
theorem ZE (i:Nat) (hi:i<=64) (x:Int) (h0:0<=x) (h1:x<18446744073709551616):Go.bits .and .u64 x (2^i-1)=x%2^i :=
 bits_mask .u64 64 (by decide) iE i hi x h0 (by omega)
theorem Wc (x:Int) (h0:0<=x) (h1:x<18446744073709551616):Go.bits .and .u64 x 4294967295=x%4294967296:=ZE 32 (by decide) x h0 h1
theorem ALP (x:Int) (h0:0<=x) (h1:x<18446744073709551616):Go.bits .and .u64 x 1=x%2:=ZE 1 (by decide) x h0 h1
theorem ACi (x:Int) (h0:0<=x) (h1:x<18446744073709551616):Go.bits .and .u64 x 4503599627370495=x%4503599627370496:=ZE 52 (by decide) x h0 h1
theorem APh (x:Int) (h0:0<=x) (h1:x<18446744073709551616):Go.bits .and .u64 x 2047=x%2048:=ZE 11 (by decide) x h0 h1
theorem Fx (i:Nat) (x y:Int) (hx0:0<=x) (hx:x%2^i=0) (hx1:x<18446744073709551616) (hy0:0<=y) (hy:y<2^i) (hy1:y<18446744073709551616):Go.bits .or .u64 x y=x+y :=
 bits_join .u64 64 (by decide) iE i x y hx0 hx (by omega) hy0 hy (by omega)
theorem kI (a b:Nat) (ha:a<2^64) (hb:b<2^64):Go.bits .or .u64 a b=((a ||| b:Nat):Int):=(bits_nat .u64 64 (by decide) iE a b ha hb).2
theorem AIf (a b:Nat) (ha:a<2^64) (hb:b<2^64):Go.bits .and .u64 a b=((a &&& b:Nat):Int):=(bits_nat .u64 64 (by decide) iE a b ha hb).1
theorem or_comm (x y:Int) (hx0:0<=x) (hx1:x<18446744073709551616) (hy0:0<=y) (hy1:y<18446744073709551616):Go.bits .or .u64 x y=Go.bits .or .u64 y x:=by
 obtain⟨a,rfl⟩:=AUP hx0;obtain⟨b,rfl⟩:=AUP hy0;rw[kI a b (by omega) (by omega),kI b a (by omega) (by omega),Nat.or_comm]
theorem WV (x y:Int) (h:y<=64):shr .u64 x y=x/2^y.toNat:=by
 unfold shr;rw[show IntKind.bits .u64=64 from rfl,AUa (by omega)]
theorem M7 (x y:Int) (h:y<=64):shl .u64 x y=x*2^y.toNat%18446744073709551616:=by
 unfold shl;rw[wu,show IntKind.bits .u64=64 from rfl,AUa (by omega)]
theorem _root_.Go.Proofs.YtjocbnjpjihpnaaGreatW.AH.Ev.AK {α:Type} {c:Prop} [Decidable c] {f g:Nat->Option α} {r:α} (h:c) (k:Ev f r):Ev (λn=>if c then f n else g n) r:=by
 obtain⟨K,k⟩:=k;exact⟨K,λn hn=>(if_pos h).trans (k n hn)⟩
theorem _root_.Go.Proofs.YtjocbnjpjihpnaaGreatW.AH.Ev.AM {α:Type} {c:Prop} [Decidable c] {f g:Nat->Option α} {r:α} (h : ¬c) (k:Ev g r):Ev (λn=>if c then f n else g n) r:=by
 obtain⟨K,k⟩:=k;exact⟨K,λn hn=>(if_neg h).trans (k n hn)⟩
theorem _root_.Go.Proofs.YtjocbnjpjihpnaaGreatW.AH.Ev.same {α:Type} {x:Option α} {r:α} (h:x=some r):Ev (λ_=>x) r:=⟨0,λ_ _=>h⟩
theorem _root_.Go.Proofs.YtjocbnjpjihpnaaGreatW.AH.Ev.WS {α:Type} {g:Nat->Option α} {r r':α} (h:Ev g r) (e:r=r'):Ev g r':=e▸h
theorem _root_.Go.Proofs.YtjocbnjpjihpnaaGreatW.AH.Ev.eqv {α:Type} {g f:Nat->Option α} {r:α} (h : ∀k,g k=f k) (k:Ev f r):Ev g r:=by
 obtain rfl:g=f:=funext h;exact k
theorem _root_.Go.Proofs.YtjocbnjpjihpnaaGreatW.AH.Ev.AP {α β:Type} {x:Option α} {f:Nat->α->Option β} {a:α} {r:β} (h:x=some a) (k:Ev (λn=>f n a) r):Ev (λn=>x.bind (f n)) r:=Ev.bind (Ev.same h) k
def bl (x:Int):Int:=if x<=0 then 0 else((Nat.log2 x.toNat+1:Nat):Int)
theorem L8:bl 0=0:=rfl
theorem CI (x:Int):0<=bl x:=by unfold bl;split<;>omega
theorem C9 {x:Int} (h:0<x):0<bl x:=by unfold bl;rw[if_neg (by omega)];omega
theorem F1 (x:Int):x<2^(bl x).toNat:=by
 unfold bl;split
 · simp only[Int.toNat_zero,AUW];omega
 · rw[AUD]
   have h:= @Nat.lt_log2_self x.toNat;have h3:((x.toNat:Nat):Int)<((2^(Nat.log2 x.toNat+1):Nat):Int):=(by exact_mod_cast h);have h4:((2^(Nat.log2 x.toNat+1):Nat):Int)=(2:Int)^(Nat.log2 x.toNat+1):=by push_cast;rfl
   rw[<-h4];omega
theorem Sp {x:Int} (h:0<x):2^(bl x-1).toNat<=x:=by
 unfold bl;rw[if_neg (by omega)];have h1:=Nat.log2_self_le (n:=x.toNat) (by omega);have h3:((2^(Nat.log2 x.toNat):Nat):Int)<=((x.toNat:Nat):Int):=by exact_mod_cast h1
 have h4:((2^(Nat.log2 x.toNat):Nat):Int)=(2:Int)^(Nat.log2 x.toNat):=by push_cast;rfl
 rw[h4] at h3;have e:(((Nat.log2 x.toNat+1:Nat):Int)-1).toNat=Nat.log2 x.toNat:=by omega
 rw[e];omega
theorem Ar {a b:Nat} (h:a<=b):(2:Int)^a<=2^b:=by
 have:=Nat.pow_le_pow_right (n:=2) (by decide) h;have h2:((2^a:Nat):Int)<=((2^b:Nat):Int):=by exact_mod_cast this
 rw[AW5,AW5] at h2;exact h2
theorem pow_pos (a:Nat):(0:Int)<2^a:=by
 have:=Nat.two_pow_pos a;have h2:(0:Int)<((2^a:Nat):Int):=by exact_mod_cast this
 rw[AW5] at h2;exact h2
theorem Vh {a b:Nat} (h:(2:Int)^a<2^b):a<b:=by
 rcases AUq a b with h1 | h1
 · exact h1
 · have:=Ar h1
   omega
theorem AKA {x:Int} {n:Nat} (h1:2^n<=x) (h2:x<2^(n+1)):bl x=n+1:=by
 have hp:=pow_pos n;have hx:0<x:=by omega
 have a1:=F1 x;have a2:=Sp hx;have a3:=C9 hx;have:n<(bl x).toNat:=Vh (by omega);have:(bl x-1).toNat<n+1:=Vh (by omega);omega
theorem BF {x:Int} {n:Nat} (h:x<2^n):bl x<=n:=by
 rcases AU1 0 x with hx | hx
 · have a2:=Sp hx
   have:(bl x-1).toNat<n:=Vh (by omega);omega
 · have:bl x=0:=by unfold bl;rw[if_pos hx]
   omega
theorem Sn {x:Int} (h:x<18446744073709551616):bl x<=64:=BF (n:=64) (by omega)
theorem Tz {x:Int} {s:Nat} (h:2^s<=x):bl x=bl (x/2^s)+s:=by
 have hp:=pow_pos s;have hq:1<=x/2^s:=by rw[AU8 hp];omega
 have a1:=F1 (x/2^s);have a2:=Sp (x:=x/2^s) (by omega);have a3:=C9 (x:=x/2^s) (by omega);obtain⟨n,hn⟩ : ∃n:Nat,bl (x/2^s)=n+1:=⟨(bl (x/2^s)-1).toNat,by omega⟩;rw[hn] at a1 a2 ⊢;have e1:((n:Int)+1).toNat=n+1:=by omega
 have e2:((n:Int)+1-1).toNat=n:=by omega
 rw[e1] at a1;rw[e2] at a2;have b1:2^n*2^s<=x:=(AU8 hp).1 a2;have b2:x<2^(n+1)*2^s:=(AUg hp).1 a1;rw[<-AUZ] at b1 b2;rw[AKA (n:=n+s) b1 (by rwa [show n+s+1=n+1+s by omega])];omega
def U (x:Int):Prop:=0<=x/\x<18446744073709551616
def Ws (l:List Int):Prop:= ∀x∈l,U x
def Wl (l:List Int):Prop:=Ws l/\l.length<=1000000000
def nv:List Int->Int
 | []=>0
 | x::l=>x+18446744073709551616*nv l
theorem Ck (x:Int) (l:List Int):nv (x::l)=x+18446744073709551616*nv l:=rfl
def Wp (n:Nat):Int:=18446744073709551616^n
theorem Oy:Wp 0=1:=rfl
theorem Dl (n:Nat):Wp (n+1)=18446744073709551616*Wp n:=by unfold Wp;rw[AUY,AUQ]
theorem Ft (n:Nat):0<Wp n:=by
 induction n with
 | zero=>decide
 | succ n ih=>rw[Dl];omega
theorem UB (a b:Nat):Wp (a+b)=Wp a*Wp b:=by unfold Wp;rw[AUZ]
theorem Hr (n:Nat):Wp n=2^(64*n):=by
 unfold Wp;rw[Int.pow_mul];rfl
theorem kV {a b:Nat} (h:a<=b):Wp a<=Wp b:=by rw[Hr,Hr];exact Ar (by omega)
theorem Jr:Ws []:=λx h=>by simp at h
theorem Ht {x:Int} {l:List Int} :Ws (x::l)↔U x/\Ws l:=by unfold Ws;simp
theorem bS {a b:List Int} :Ws (a++b)↔Ws a/\Ws b:=by
 unfold Ws;simp only[AUj];exact⟨λh=>⟨λx hx=>h x (.inl hx),λx hx=>h x (.inr hx)⟩,λh x hx=>hx.elim (h.1 x) (h.2 x)⟩
theorem En {l:List Int} (h:Ws l) (n:Nat):Ws (l.take n):=λx hx=>h x (AWJ hx)
theorem Oz {l:List Int} (h:Ws l) (n:Nat):Ws (l.drop n):=λx hx=>h x (AWK hx)
theorem Gf {x:Int} (h:U x):Ws [x]:=λy hy=>by simp at hy;rw[hy];exact h
theorem ZF (n:Nat):Ws (List.replicate n 0):=λx hx=>by rw[AXP hx];unfold U;omega
theorem I5 {l:List Int} (h:Ws l) (i:Int):U (rd l i):=by
 unfold rd;rw[AUF];rcases AUq i.toNat l.length with hi | hi
 · rw[AUT hi];exact h _ (AWS hi)
 · rw[AUm hi];unfold U;simp
theorem AS {l:List Int} (h:Ws l):0<=nv l:=by
 induction l with
 | nil=>exact AW6 0
 | cons x l ih =>
   have h1:=Ht.1 h;have h2:=ih h1.2;have h3:=h1.1.1;rw[Ck];omega
theorem MS {l:List Int} (h:Ws l):nv l<Wp l.length:=by
 induction l with
 | nil=>decide
 | cons x l ih =>
   have h1:=Ht.1 h;have h2:=ih h1.2;have h3:=h1.1.2;rw[AUu,Dl,Ck];omega
theorem kW (a b:List Int):nv (a++b)=nv a+Wp a.length*nv b:=by
 induction a with
 | nil=>simp[nv,Oy]
 | cons x a ih =>
   rw[AWR,AUu,Dl,Ck,Ck,ih]
   grind
theorem Fp (x:Int):nv [x]=x:=by rw[Ck];show x+18446744073709551616*0=x;omega
theorem JX (a:List Int) (x:Int):nv (a++ [x])=nv a+Wp a.length*x:=by rw[kW,Fp]
theorem UC (n:Nat):nv (List.replicate n 0)=0:=by
 induction n with
 | zero=>rfl
 | succ n ih=>rw[List.replicate_succ,Ck,ih];rfl
theorem JY {l:List Int} {i:Nat} (h:i<l.length):l.take (i+1)=l.take i++ [rd l (i:Int)]:=by
 rw[AVz h];unfold rd;rw[AUD,AUF,AUT h];rfl
theorem B4 {l:List Int} {i:Nat} (h:i<l.length):nv (l.take (i+1))=nv (l.take i)+Wp i*rd l (i:Int):=by
 rw[JY h,JX,AUJ,AUa (by omega)]
theorem ZG (l:List Int) (i:Nat):nv l=nv (l.take i)+Wp (min i l.length)*nv (l.drop i):=by
 have:=kW (l.take i) (l.drop i);rw[AVi,AUJ] at this;exact this
def dgF:Nat->Int->List Int
 | 0,_=> []
 | k+1,n=>if n<=0 then[] else n%18446744073709551616::dgF k (n/18446744073709551616)
def dg (n:Int):List Int:=dgF n.toNat n
theorem ZH (k:Nat) {n:Int} (h:n<=0):dgF k n= []:=by
 cases k with
 | zero=>rfl
 | succ k=>unfold dgF;rw[if_pos h]
theorem AHB : ∀(k j:Nat) (n:Int),n.toNat<=k->n.toNat<=j->dgF k n=dgF j n
 | 0,j,n,hk,_=>by rw[ZH 0 (by omega),ZH j (by omega)]
 | k+1,0,n,_,hj=>by rw[ZH _ (by omega),ZH 0 (by omega)]
 | k+1,j+1,n,hk,hj=>by
   unfold dgF;by_cases h:n<=0
   · rw[if_pos h,if_pos h]
   · rw[if_neg h,if_neg h,AHB k j _ (by omega) (by omega)]
theorem kG {n:Int} (h:n<=0):dg n= []:=ZH _ h
theorem IZ:dg 0= []:=rfl
theorem N6 {n:Int} (h:0<n):dg n=n%18446744073709551616::dg (n/18446744073709551616):=by
 unfold dg;obtain⟨k,hk⟩ : ∃k,n.toNat=k+1:=⟨n.toNat-1,by omega⟩;rw[hk]
 conv=>lhs;unfold dgF
 rw[if_neg (by omega),AHB k _ _ (by omega) (AUN _)]
theorem AAt {P:Int->Prop} (h0:P 0) (hs : ∀n,0<n->P (n/18446744073709551616)->P n) (n:Int) (hn:0<=n):P n:=by
 have key : ∀(k:Nat) (n:Int),0<=n->n.toNat<=k->P n:=by
  intro k;induction k with
  | zero=>intro n h1 h2;obtain rfl:n=0:=by omega
          exact h0
  | succ k ih =>
    intro n h1 h2;rcases(show n=0\/0<n by omega) with rfl | h
    · exact h0
    · exact hs n h (ih _ (by omega) (by omega))
 exact key _ n hn (AUN _)
theorem Sl (n:Int):Ws (dg n):=by
 rcases AU1 n 0 with h | h
 · rw[kG (by omega)];exact Jr
 · refine AAt (P:=λn=>Ws (dg n)) Jr (λn hn ih=> ?_) n h
   rw[N6 hn];exact Ht.2 ⟨by unfold U;omega,ih⟩
theorem AR {n:Int} (h:0<=n):nv (dg n)=n:=by
 refine AAt (P:=λn=>nv (dg n)=n) rfl (λn hn ih=> ?_) n h;rw[N6 hn,Ck,ih];omega
def Cn (l:List Int):Prop:=l= []\/l.getLast? ≠some 0
theorem APy {n:Int} (h:0<=n):Cn (dg n):=by
 refine AAt (P:=λn=>Cn (dg n)) (.inl rfl) (λn hn ih=> ?_) n h;rw[N6 hn];refine .inr ?_;rcases ih with ih | ih
 · have h1:=AR (n:=n/18446744073709551616) (by omega)
   rw[ih] at h1 ⊢;unfold nv at h1;simp;omega
 · cases hd:dg (n/18446744073709551616) with
   | nil =>
     have h1:=AR (n:=n/18446744073709551616) (by omega);rw[hd] at h1;unfold nv at h1;simp;omega
   | cons y l =>
     rw[hd] at ih;rw[AXR];exact ih
theorem ACu {x:Int} {l:List Int} (h:Cn (x::l)):Cn l:=by
 cases l with
 | nil=>exact .inl rfl
 | cons y l =>
   rcases h with h | h
   · cases h
   · rw[AXR] at h;exact .inr h
theorem ADq {l:List Int} (h:Ws l) (hc:Cn l) (hne:l≠ []):0<nv l:=by
 induction l with
 | nil=>exact absurd rfl hne
 | cons x l ih =>
   have h1:=Ht.1 h;unfold U at h1;rw[Ck];cases l with
   | nil =>
     rcases hc with hc | hc
     · cases hc
     · simp at hc;show 0<x+18446744073709551616*0;omega
   | cons y l =>
     have:=ih h1.2 (ACu hc) (by simp);omega
theorem APz {l:List Int} (h:Ws l) (hc:Cn l):dg (nv l)=l:=by
 induction l with
 | nil=>rfl
 | cons x l ih =>
   have h0:=ADq h hc (by simp);have h1:=Ht.1 h;have h2:=AS h1.2;unfold U at h1;have e:nv (x::l)=x+18446744073709551616*nv l:=rfl;rw[N6 h0,e,show(x+18446744073709551616*nv l)%18446744073709551616=x by omega,show(x+18446744073709551616*nv l)/18446744073709551616=nv l by omega,ih h1.2 (ACu hc)]
theorem sZ {a b:Int} (ha:0<=a) (hb:0<=b) (h:dg a=dg b):a=b:=by rw[<-AR ha,h,AR hb]
theorem Nt {n:Int} {m:Nat} (h:n<Wp m):(dg n).length<=m:=by
 induction m generalizing n with
 | zero=>rw[kG (by rw[Oy] at h;omega)];simp
 | succ m ih =>
   rcases AU1 0 n with h1 | h1
   · rw[N6 h1,AUu]
     rw[Dl] at h;have:= @ih (n/18446744073709551616) (by omega);omega
   · rw[kG h1];simp
theorem pF {n:Int} {m:Nat} (h:Wp m<=n):m<(dg n).length:=by
 have hp:=Ft m;have h1:=MS (Sl n);rw[AR (by omega)] at h1;rcases AUq m (dg n).length with h2 | h2
 · exact h2
 · have:=kV h2;omega
theorem bT {n:Int} (h:0<n):Wp ((dg n).length-1)<=n:=by
 rcases AU1 n (Wp ((dg n).length-1)) with h1 | h1
 · have:=Nt h1
   have h2:(dg n).length≠0:=(by rw[N6 h];simp);omega
 · exact h1
theorem QO {n:Int} (h:0<=n):n<Wp (dg n).length:=by
 have h1:=MS (Sl n)
 rwa [AR h] at h1
theorem Bq {x y:Int} (h:x<=y):bl x<=bl y:=by
 have h1:=F1 y;have:=BF (x:=x) (n:=(bl y).toNat) (by omega);have:=CI y;omega
theorem Tt {x y:Int} (hx:0<=x) (hy:0<=y) {m:Int} (h1:bl x<=m) (h2:bl y<=m):bl (x+y)<=m+1:=by
 have a1:=F1 x;have a2:=F1 y;have n1:=CI x;have n2:=CI y;obtain⟨k,rfl⟩:=AUP (show 0<=m by omega);have b1:=Ar (a:=(bl x).toNat) (b:=k) (by omega);have b2:=Ar (a:=(bl y).toNat) (b:=k) (by omega);have:=BF (x:=x+y) (n:=k+1) (by rw[AUY];omega);omega
theorem Dt {x y:Int} (hx:0<=x) (hy:0<=y):bl (x*y)<=bl x+bl y:=by
 have a1:=F1 x;have a2:=F1 y;have n1:=CI x;have n2:=CI y;have p1:=pow_pos (bl x).toNat;have h:x*y<2^((bl x).toNat+(bl y).toNat):=by
  rw[AUZ];rcases(show y=0\/0<y by omega) with rfl | h
  · rw[AVN];exact AU3 p1 (pow_pos _)
  · exact Int.mul_lt_mul a1 (by omega) h (by omega)
 have:=BF h;omega
theorem AN (n:Int):((dg n).length:Int)<=(bl n+63)/64:=by
 have h1:=F1 n;have n1:=CI n;obtain⟨k,hk⟩:=AUP (show 0<=(bl n+63)/64 by omega);have h2:n<Wp k:=by
  rw[Hr];have:=Ar (a:=(bl n).toNat) (b:=64*k) (by omega);omega
 have:=Nt h2;omega
theorem Av {n:Int} (h:bl n<=60000000000):Wl (dg n):=⟨Sl n,by have:=AN n;omega⟩
theorem GG {l:List Int} (h:Ws l):bl (nv l)<=64*l.length:=by
 have h1:=MS h;rw[Hr] at h1;have:=BF h1;omega
theorem RJ {a b c:Int} (ha:U a) (hb:U b) (hc:U c):D8.f a b c=some ((a+b+c)%18446744073709551616,(a+b+c)/18446744073709551616):=by
 unfold U at ha hb hc;unfold D8.f;simp only[wu];split<;>split<;>(simp only[AWH,AV6];omega)
theorem N9 {a b c:Int} (ha:U a) (hb:U b) (hc:U c):FC.f a b c=some ((a-b-c)%18446744073709551616,-((a-b-c)/18446744073709551616)):=by
 unfold U at ha hb hc;unfold FC.f;simp only[wu];split<;>split<;>(simp only[AWH,AV6];omega)
theorem AAu (a b:Int):a*b=(a/4294967296)*(b/4294967296)*18446744073709551616+((a%4294967296)*(b/4294967296)+(a/4294967296)*(b%4294967296))*4294967296+(a%4294967296)*(b%4294967296):=by
 have h1:=AUV a 4294967296;have h2:=AUV b 4294967296;generalize a/4294967296=a1 at *;generalize b/4294967296=b1 at *;generalize a%4294967296=a0 at *;generalize b%4294967296=b0 at *;subst h1 h2
 grind
theorem JZ {x y m n:Int} (hx0:0<=x) (hx:x<=m) (hy0:0<=y) (hy:y<=n):0<=x*y/\x*y<=m*n :=
 ⟨AUM hx0 hy0,AWl hx hy hy0 (by omega)⟩
theorem KL {a b:Int} (ha:U a) (hb:U b):Dr.f a b=some (a*b/18446744073709551616,a*b%18446744073709551616):=by
 unfold U at ha hb;unfold Dr.f;have e:=AAu a b;have k1:=JZ (x:=a%4294967296) (y:=b%4294967296) (m:=4294967295) (n:=4294967295) (by omega) (by omega) (by omega) (by omega);have k2:=JZ (x:=a%4294967296) (y:=b/4294967296) (m:=4294967295) (n:=4294967295) (by omega) (by omega) (by omega) (by omega);have k3:=JZ (x:=a/4294967296) (y:=b%4294967296) (m:=4294967295) (n:=4294967295) (by omega) (by omega) (by omega) (by omega);have k4:=JZ (x:=a/4294967296) (y:=b/4294967296) (m:=4294967295) (n:=4294967295) (by omega) (by omega) (by omega) (by omega);rw[Wc a (by omega) (by omega),Wc b (by omega) (by omega)];generalize a%4294967296*(b%4294967296)=p at *;generalize a%4294967296*(b/4294967296)=q at *;generalize a/4294967296*(b%4294967296)=r at *;generalize a/4294967296*(b/4294967296)=t at *;rw[e];clear e ha hb;simp only[Int.reduceMul] at *;simp only[wu];rw[Wc _ (by omega) (by omega),Wc _ (by omega) (by omega),Fx 32 _ _ (by omega) (by omega) (by omega) (by omega) (by omega) (by omega)];simp only[AWH,AV6];omega
theorem AHC (k:Nat) (x n:Int) (h0:0<=x) (h1:x<2) (hn0:0<=n) (hn1:n<=63):BV.l0 (k+1) x n 0=some (n+bl x):=by
 simp only[BV.l0];rw[if_neg (by omega),AG (n:=x) (by omega) (by omega),AG (by omega) (by omega)];rcases(show x=0\/x=1 by omega) with rfl | rfl
 · rfl
 · have:bl 1=1:=rfl
   rw[this]
theorem QS (k s s':Nat) (hs:0<s) (hs2:s<=32) (hs':s'=s/2)
 (H : ∀x n:Int,0<=x->x<2^s->0<=n->n<=64-s->BV.l0 k x n s'=some (n+bl x))
 (x n:Int) (h0:0<=x) (h1:x<2^(2*s)) (hn0:0<=n) (hn1:n<=64-2*s):BV.l0 (k+1) x n s=some (n+bl x):=by
 have hp:=pow_pos s;have hd:((s:Nat):Int)/2=((s':Nat):Int):=by omega
 simp only[BV.l0];rw[if_pos (by omega),if_pos (by omega),WV _ _ (by omega),AUD,hd];by_cases hq:x/2^s>0
 · have hle:2^s<=x:=by
    rcases AU1 x (2^s) with h | h
    · rw[AUo h0 h] at hq;omega
    · exact h
   rw[if_pos hq,AG (by omega) (by omega),H _ _ (by omega) ?_ (by omega) (by omega),Tz hle]
   · congr 1;omega
   · rw[AUg hp,<-AUZ]
     rwa [show s+s=2*s by omega]
 · have hlt:x<2^s:=by
    rcases AU1 x (2^s) with h | h
    · exact h
    · have:1<=x/2^s:=by rw[AU8 hp];omega
      omega
   rw[if_neg hq,H _ _ h0 hlt hn0 (by omega)]
theorem Gg {x:Int} (h:U x):Ev (λk=>BV.f k x) (bl x):=by
 refine⟨7,λk hk=> ?_⟩;obtain⟨k,rfl⟩ : ∃m,k=m+1+1+1+1+1+1+1:=⟨k-7,by omega⟩;have s0 : ∀x n:Int,0<=x->x<2^1->0<=n->n<=64-((1:Nat):Int)->BV.l0 (k+1) x n ((0:Nat):Int)=some (n+bl x):=λx n a b c d=>AHC k x n a (by omega) c (by omega)
 have s1:=QS (k+1) 1 0 (by omega) (by omega) rfl s0;have s2:=QS (k+1+1) 2 1 (by omega) (by omega) rfl (λx n a b c d=>s1 x n a b c (by omega));have s3:=QS (k+1+1+1) 4 2 (by omega) (by omega) rfl (λx n a b c d=>s2 x n a b c (by omega));have s4:=QS (k+1+1+1+1) 8 4 (by omega) (by omega) rfl (λx n a b c d=>s3 x n a b c (by omega));have s5:=QS (k+1+1+1+1+1) 16 8 (by omega) (by omega) rfl (λx n a b c d=>s4 x n a b c (by omega));have s6:=QS (k+1+1+1+1+1+1) 32 16 (by omega) (by omega) rfl (λx n a b c d=>s5 x n a b c (by omega));have:=s6 x 0 h.1 h.2 (by omega) (by omega);unfold BV.f;exact this.trans (by congr 1;omega)
theorem xT (m:Nat) : ∀x n:Int,0<=x->x.toNat<=m->bl x<=64->0<=n->n+bl x<=1000->Ev (λk=>FD.l0 k x n) (n+bl x):=by
 induction m with
 | zero =>
   intro x n h0 h1 hb hn hn1;obtain rfl:x=0:=by omega
   refine Ev.step (λk=>FD.l0.eq_2 ..) ?_;refine Ev.AM (by omega) ?_;exact Ev.same (by rw[L8];congr 1;omega)
 | succ m ih =>
   intro x n h0 h1 hb hn hn1;refine Ev.step (λk=>FD.l0.eq_2 ..) ?_;by_cases hx:x>0
   · refine Ev.AK hx ?_
     have e:bl x=bl (x/2)+1\/(x=1/\bl x=1):=by
      rcases(show x=1\/2<=x by omega) with h | h
      · exact .inr ⟨h,by rw[h];rfl⟩
      · exact .inl (Tz (s:=1) (by omega))
     have e2:bl x=bl (x/2)+1:=by
      rcases e with e | ⟨rfl,e⟩
      · exact e
      · rfl
     have hn2:=CI (x/2);rw[AG (by omega) (by omega)];refine(ih (x/2) (n+1) (by omega) (by omega) (by omega) (by omega) (by omega)).WS (by omega)
   · refine Ev.AM hx ?_
     obtain rfl:x=0:=by omega
     exact Ev.same (by rw[L8];congr 1;omega)
theorem xU {x:Int} (h:U x):Ev (λk=>FD.f k x) (bl x):=by
 have hb:=Sn h.2;have:=xT x.toNat x 0 h.1 (AUN _) hb (by omega) (by omega);exact this.WS (by omega)
theorem AAv (rest next d d0 d1:Int) (hd:d=d1*4294967296+d0) (hd1:2147483648<=d1) (AT0:d1<4294967296) (zL:0<=d0) (AT1:d0<4294967296) (Yc:0<=rest) (hr1:rest<d) (hn0:0<=next) (hn1:next<4294967296) (m:Nat) :
 ∀q r:Int,q.toNat<m->q*d1+r=rest->0<=r->r<4294967296->q<=4294967297->(rest*4294967296+next)/d<=q ->
  Ev (λk=>Bu.l0 k rest next d d0 d1 q r) ((rest*4294967296+next)/d,(rest*4294967296+next)%d):=by
 have hdp:0<d:=by omega
 have hN0:0<=(rest*4294967296+next)/d:=AUX (by omega) (by omega);have AT2:(rest*4294967296+next)/d<4294967296:=by rw[AUg hdp];omega
 have hmod:=AUe (rest*4294967296+next) (show d≠0 by omega);have ATf:=AUd (rest*4294967296+next) hdp;have hdm:=AUV (rest*4294967296+next) d;have fin : ∀q:Int,q=(rest*4294967296+next)/d->IntKind.u64.wrap ((IntKind.u64.wrap ((IntKind.u64.wrap (rest*4294967296))+next))-(IntKind.u64.wrap (q*d)))=(rest*4294967296+next)%d:=by
  intro q hq;subst hq;generalize (rest*4294967296+next)/d=q at *;generalize (rest*4294967296+next)%d=r at *;have e:q*d=d*q:=AUQ _ _;rw[e];generalize d*q=p at *;simp only[wu];omega
 induction m with
 | zero=>intro q r hm;omega
 | succ m ih =>
   intro q r hm hq h0 h1 h2 h3;have hqn:0<=q:=(by omega);have hp:=JZ (x:=q) (y:=d0) (m:=4294967297) (n:=4294967295) hqn h2 zL (by omega);have OV:(q-1)*d0=q*d0-d0:=(by rw[AXa,AVd]);have hs1:(q-1)*d1=q*d1-d1:=(by rw[AXa,AVd]);have hqd:q*d=q*d1*4294967296+q*d0:=(by rw[hd,AVp,<-AUl]);have ATB:(q-1)*d=q*d-d:=(by rw[AXa,AVd]);have more:(rest*4294967296+next)/d<q->Ev (λk=>Bu.j1 k rest next d d0 d1 q r true) ((rest*4294967296+next)/d,(rest*4294967296+next)%d):=by
    intro hlt;refine Ev.step (λk=>Bu.j1.eq_2 ..) ?_;refine Ev.AK rfl ?_;have w1:IntKind.u64.wrap (r+d1)=r+d1:=DC (by omega) (by omega);have w2:IntKind.u64.wrap (q-1)=q-1:=DC (by omega) (by omega);rw[w1,w2];by_cases hb:r+d1>4294967295
    · refine Ev.AK hb ?_
      have hle:q-1<=(rest*4294967296+next)/d:=by
       rw[AU8 hdp,ATB,hqd];have Mw:=JZ (x:=q-1) (y:=d0) (m:=4294967296) (n:=4294967295) (by omega) (by omega) zL (by omega);generalize (q-1)*d0=p1 at *;generalize q*d0=p at *;generalize q*d1=s at *;omega
      have he:q-1=(rest*4294967296+next)/d:=(by omega);exact Ev.same (by rw[fin _ he,he])
    · refine Ev.AM hb ?_
      exact ih (q-1) (r+d1) (by omega) (by rw[hs1];omega) (by omega) (by omega) (by omega) (by omega)
   refine Ev.step (λk=>Bu.l0.eq_2 ..) ?_;by_cases hq1:q>4294967295
   · exact Ev.AK hq1 (more (by omega))
   · refine Ev.AM hq1 ?_
     have w1:IntKind.u64.wrap (q*d0)=q*d0:=by
      have hp3:=JZ (x:=q) (y:=d0) (m:=4294967295) (n:=4294967295) hqn (by omega) zL (by omega);exact DC (by omega) (by omega)
     have w2:Go.bits .or .u64 (IntKind.u64.wrap (r*4294967296)) next=r*4294967296+next:=by
      rw[DC (by omega) (by omega)];exact Fx 32 _ _ (by omega) (by omega) (by omega) (by omega) (by omega) (by omega)
     rw[w1,w2];by_cases hc:q*d0>r*4294967296+next
     · rw[decide_eq_true hc]
       refine more ?_;rw[AUg hdp,hqd];generalize q*d0=p at *;generalize q*d1=s at *;omega
     · rw[decide_eq_false hc]
       have hle:q<=(rest*4294967296+next)/d:=by
        rw[AU8 hdp,hqd];generalize q*d0=p at *;generalize q*d1=s at *;omega
       have he:q=(rest*4294967296+next)/d:=(by omega);refine Ev.step (λk=>Bu.j1.eq_2 ..) ?_;refine Ev.AM (by decide) ?_;exact Ev.same (by rw[fin _ he,he])
theorem ZI {rest next d:Int} (hd:9223372036854775808<=d) (hd':d<18446744073709551616) (Yc:0<=rest) (hr1:rest<d) (hn0:0<=next) (hn1:next<4294967296) :
 Ev (λk=>Bu.f k rest next d) ((rest*4294967296+next)/d,(rest*4294967296+next)%d):=by
 have e1:=AUV d 4294967296;have h1:2147483648<=d/4294967296:=by omega
 have h2:d/4294967296<4294967296:=by omega
 refine Ev.AM (by omega) ?_;rw[Wc d (by omega) hd'];have hq0:=AUX Yc (show 0<=d/4294967296 by omega);have m0:=AUe rest (show d/4294967296≠0 by omega);have m1:=AUd rest (show 0<d/4294967296 by omega);have md:=AUV rest (d/4294967296);rw[AU4 Yc,AU5 Yc];have ATC:rest/(d/4294967296)<=4294967297:=by
  have:rest/(d/4294967296)<4294967298:=by rw[AUg (by omega)];omega
  omega
 rw[DC hq0 (by omega)];refine AAv rest next d (d%4294967296) (d/4294967296) (by omega) h1 h2 (by omega) (by omega) Yc hr1 hn0 hn1 ((rest/(d/4294967296)).toNat+1) _ _ (by omega) (by rw[AUQ];omega) m0 (by omega) ATC ?_
 have hlt:(rest*4294967296+next)/d<rest/(d/4294967296)+1:=by
  rw[AUg (by omega)];have e2:(rest/(d/4294967296)+1)*d=(d/4294967296*(rest/(d/4294967296))+d/4294967296)*4294967296+(rest/(d/4294967296)+1)*(d%4294967296):=by
   generalize rest/(d/4294967296)=q at *;generalize d/4294967296=d1 at *;generalize d%4294967296=d0 at *;subst e1
   grind
  have e3:0<=(rest/(d/4294967296)+1)*(d%4294967296):=AUM (by omega) (by omega);rw[e2];generalize (rest/(d/4294967296)+1)*(d%4294967296)=z at *;generalize d/4294967296*(rest/(d/4294967296))=y at *;omega
 omega
theorem AGp {d:Int} (h0:0<d) (h1:d<18446744073709551616):9223372036854775808<=d*2^(64-bl d).toNat/\d*2^(64-bl d).toNat<18446744073709551616:=by
 have a1:=F1 d;have a2:=Sp h0;have a3:=Sn h1;have a4:=C9 h0;obtain⟨n,hn⟩ : ∃n:Nat,bl d=n+1:=⟨(bl d-1).toNat,by omega⟩;rw[hn] at a1 a2 a3 ⊢;have e1:((n:Int)+1).toNat=n+1:=by omega
 have e2:((n:Int)+1-1).toNat=n:=by omega
 have e3:(64-((n:Int)+1)).toNat=63-n:=by omega
 rw[e1] at a1;rw[e2] at a2;rw[e3];have hp:=pow_pos (63-n);have b1:=AUL a2 (AUE hp);have b2:=AUw a1 hp;rw[<-AUZ,show n+(63-n)=63 by omega] at b1;rw[<-AUZ,show n+1+(63-n)=64 by omega] at b2;omega
theorem Xb {hi lo d:Int} (hhi:0<=hi) (hlt:hi<d) (hd:d<18446744073709551616) (hlo:U lo) :
 Ev (λk=>Il.f k hi lo d) ((hi*18446744073709551616+lo)/d,(hi*18446744073709551616+lo)%d,true):=by
 obtain⟨AGn,AGo⟩:=hlo;refine Ev.AM (by omega) ?_;refine Ev.bind (Gg ⟨by omega,hd⟩) ?_;have b1:=C9 (x:=d) (by omega);have b2:=Sn hd;have b3:=AGp (d:=d) (by omega) hd;have e64:wrap64 (64-bl d)=64-bl d:=AG (by omega) (by omega);have e63:wrap64 (63-(64-bl d))=bl d-1:=by rw[AG (by omega) (by omega)];omega
 rw[e64,e63];refine Ev.AK (by omega) (Ev.AK (by omega) ?_);obtain⟨s,hs⟩ : ∃s:Nat,64-bl d=s:=⟨(64-bl d).toNat,by omega⟩;have ALb:s<=63:=by omega
 have hs1:bl d-1=((63-s:Nat):Int):=by omega
 rw[hs] at b3 ⊢;rw[hs1];rw[AUD] at b3;have hp:=pow_pos s;have Mw:=pow_pos (64-s);have kK:(2:Int)^s*2^(64-s)=18446744073709551616:=by rw[<-AUZ,show s+(64-s)=64 by omega];rfl
 rw[M7 d _ (by omega),M7 hi _ (by omega),M7 lo _ (by omega),WV _ _ (by omega),AUD,AUD];have hdm:d*2^s%18446744073709551616=d*2^s:=AUp (by omega) b3.2;have hh0:0<=hi*2^s:=AUM hhi (by omega);have hh1:hi*2^s+2^s<=d*2^s:=by
  have:=AUL (show hi+1<=d by omega) (AUE hp);rw[AVt,AVd] at this;exact this
 have hhm:hi*2^s%18446744073709551616=hi*2^s:=AUp hh0 (by omega);have hl2:lo/2/2^(63-s)=lo/2^(64-s):=by
  rw[AUt (by omega),show(64-s)=(63-s)+1 by omega,AUY,AUQ]
 have hl3:0<=lo/2^(64-s):=AUX AGn (by omega);have hl4:lo/2^(64-s)<2^s:=by rw[AUg Mw,kK];exact AGo
 have hl5:lo*2^s=lo/2^(64-s)*18446744073709551616+lo%2^(64-s)*2^s:=by
  have h:=AUV lo (2^(64-s));generalize lo/2^(64-s)=q at *;generalize lo%2^(64-s)=r at *;rw[<-h,AVt,<-kK]
  grind
 have hl6:0<=lo%2^(64-s):=AUe _ (by omega);have hl7:lo%2^(64-s)<2^(64-s):=AUd _ Mw;have hl8:lo%2^(64-s)*2^s<18446744073709551616:=by
  have:=AUw hl7 hp;rw[AUQ (2^(64-s)),kK] at this;exact this
 have hl9:0<=lo%2^(64-s)*2^s:=AUM hl6 (by omega);have hlm:lo*2^s%18446744073709551616=lo%2^(64-s)*2^s:=by omega
 have hor:Go.bits .or .u64 (hi*2^s) (lo/2^(64-s))=hi*2^s+lo/2^(64-s) :=
  Fx s _ _ hh0 (AXN _ _) (by omega) hl3 hl4 (by omega)
 rw[hdm,hhm,hl2,hor,hlm];have hN:(hi*18446744073709551616+lo)*2^s=(hi*2^s+lo/2^(64-s))*18446744073709551616+lo%2^(64-s)*2^s:=by
  have:(hi*18446744073709551616+lo)*2^s=hi*2^s*18446744073709551616+lo*2^s:=by grind
  rw[this,hl5]
  grind
 have hdiv:(hi*18446744073709551616+lo)/d=(hi*18446744073709551616+lo)*2^s/(d*2^s):=(AWz _ _ hp).symm;have hmod:(hi*18446744073709551616+lo)*2^s%(d*2^s)=(hi*18446744073709551616+lo)%d*2^s:=by
  rw[AUQ _ (2^s),AUQ d (2^s),AVu _ _ hp,AUQ]
 have hm1:=AUe (hi*18446744073709551616+lo) (show d≠0 by omega);have hmm:(hi*18446744073709551616+lo)%d=(hi*18446744073709551616+lo)*2^s%(d*2^s)/2^s:=by rw[hmod,AW7 _ (by omega)]
 rw[hdiv,hmm,hN];have hH:0<=hi*2^s+lo/2^(64-s):=by omega
 have hHD:hi*2^s+lo/2^(64-s)<d*2^s:=by omega
 generalize hi*2^s+lo/2^(64-s)=H at *;generalize lo%2^(64-s)*2^s=L at *;generalize d*2^s=D at *;refine Ev.bind (ZI b3.1 b3.2 hH hHD (by omega) (by omega)) ?_;have r0:=AUe (H*4294967296+L/4294967296) (show D≠0 by omega);have r1:=AUd (H*4294967296+L/4294967296) (show 0<D by omega);rw[Wc L (by omega) hl8];refine Ev.bind (ZI b3.1 b3.2 r0 r1 (by omega) (by omega)) ?_;have q10:0<=(H*4294967296+L/4294967296)/D:=AUX (by omega) (by omega);have q11:(H*4294967296+L/4294967296)/D<4294967296:=by rw[AUg (by omega)];omega
 have md:=AUV (H*4294967296+L/4294967296) D;generalize (H*4294967296+L/4294967296)/D=q1 at *;generalize (H*4294967296+L/4294967296)%D=r at *;have hR:H*18446744073709551616+L=D*(q1*4294967296)+(r*4294967296+L%4294967296):=by
  have:D*(q1*4294967296)=D*q1*4294967296:=by rw[AUl]
  rw[this];generalize D*q1=z at *;omega
 have q00:0<=(r*4294967296+L%4294967296)/D:=AUX (by omega) (by omega);have q01:(r*4294967296+L%4294967296)/D<4294967296:=by rw[AUg (by omega)];omega
 have s0:=AUe (r*4294967296+L%4294967296) (show D≠0 by omega);have s1:=AUd (r*4294967296+L%4294967296) (show 0<D by omega);have eD:(D*(q1*4294967296)+(r*4294967296+L%4294967296))/D=(r*4294967296+L%4294967296)/D+q1*4294967296:=by
  rw[AVr,AUy _ _ (by omega)]
 have eM:(D*(q1*4294967296)+(r*4294967296+L%4294967296))%D=(r*4294967296+L%4294967296)%D:=by
  rw[AVr,AU6]
 rw[hR,eD,eM];have hw:Go.bits .or .u64 (IntKind.u64.wrap (q1*4294967296)) ((r*4294967296+L%4294967296)/D)=(r*4294967296+L%4294967296)/D+q1*4294967296:=by
  rw[DC (by omega) (by omega),Fx 32 _ _ (by omega) (by omega) (by omega) (by omega) (by omega) (by omega)];omega
 have hsh:shr .u64 ((r*4294967296+L%4294967296)%D) (s:Int)=(r*4294967296+L%4294967296)%D/2^s:=by rw[WV _ _ (by omega),AUD]
 exact Ev.same (by rw[hw,hsh])
theorem su (b:Int) (n:Nat):b/2^(n+1)=b/2^n/2:=by
 have hp:=pow_pos n;rw[AUt (by omega),AUY]
theorem Wd {b:Int} (hb:U b) (n:Nat):0<=b/2^n/\b/2^n<=b:=by
 have hp:=pow_pos n;exact⟨AUX hb.1 (by omega),AU2 _ hb.1⟩
theorem xV {hi lo d:Int} (hhi:0<=hi) (hlt:hi<d) (hd:d<18446744073709551616) (hlo:U lo) (n:Nat) (hn:n<=64) : ∀q r:Int,0<=q->0<=r->r<d->q*d+r=(hi*18446744073709551616+lo)/2^n ->
 Ev (λk=>EB.l0 k lo d q r ((n:Int)-1)) ((hi*18446744073709551616+lo)/d,(hi*18446744073709551616+lo)%d,true):=by
 induction n with
 | zero =>
   intro q r hq h1 h2 h;rw[AUW,AU9] at h;rw[<-h];refine Ev.step (λk=>EB.l0.eq_2 ..) ?_;refine Ev.AM (by omega) (Ev.same ?_);rw[AUQ q d,AVr,AUy _ _ (by omega),AU6,AUo h1 h2,AUp h1 h2,AWY]
 | succ n ih =>
   intro q r hq h1 h2 h;obtain⟨AGn,AGo⟩:=hlo;have hp:=pow_pos n;rw[su] at h;have Y5:(hi*18446744073709551616+lo)/2^n%2=lo/2^n%2:=by
    have e:hi*18446744073709551616+lo=lo+2^n*(hi*2^(64-n)):=by
     have:(2:Int)^n*2^(64-n)=18446744073709551616:=(by rw[<-AUZ,show n+(64-n)=64 by omega];rfl);rw[<-this]
     grind
    rw[e,AUy _ _ (by omega),show 64-n=(63-n)+1 by omega,AUY,<-AUl];omega
   have hqd:q*d<18446744073709551616*d:=by
    have a1:(hi*18446744073709551616+lo)/2^n/2<=(hi*18446744073709551616+lo)/2^n:=by
     have:=AUX (a:=hi*18446744073709551616+lo) (b:=2^n) (by omega) (by omega);omega
    have a2:(hi*18446744073709551616+lo)/2^n<=hi*18446744073709551616+lo:=AU2 _ (by omega);omega
   have hql:q<18446744073709551616:=AVx hqd (by omega);have AT3:q*2*d<=(hi*18446744073709551616+lo):=by
    have a2:(hi*18446744073709551616+lo)/2^n<=hi*18446744073709551616+lo:=AU2 _ (by omega);have:q*2*d=2*(q*d):=(by grind);rw[this];omega
   have hq2:q*2<18446744073709551616:=AVx (a:=d) (by omega) (by omega);have hN:(hi*18446744073709551616+lo)/2^n=2*((hi*18446744073709551616+lo)/2^n/2)+lo/2^n%2:=(by omega);have hrn:=Wd (b:=lo) ⟨AGn,AGo⟩ n;have hw:IntKind.u64.wrap (((n+1:Nat):Int)-1)=n:=(by rw[DC (by omega) (by omega)];omega);have hw6:wrap64 (((n+1:Nat):Int)-1-1)=(n:Int)-1:=(by rw[AG (by omega) (by omega)];omega);refine Ev.step (λk=>EB.l0.eq_2 ..) ?_;refine Ev.AK (by omega) ?_;rw[hw,hw6];refine Ev.AK (by omega) ?_;rw[WV _ _ (by omega),AUD,ALP _ hrn.1 (by omega)];have ho:Go.bits .or .u64 (IntKind.u64.wrap (r*2)) (lo/2^n%2)=(r*2+lo/2^n%2)%18446744073709551616:=by
    rw[wu,Fx 1 _ _ (by omega) (by omega) (by omega) (by omega) (by omega) (by omega)];omega
   have hoq:Go.bits .or .u64 (IntKind.u64.wrap (q*2)) 1=q*2+1:=by
    rw[wu,Fx 1 _ _ (by omega) (by omega) (by omega) (by omega) (by omega) (by omega)];omega
   rw[ho,hoq,DC (n:=q*2) (by omega) (by omega)];generalize lo/2^n%2=bit at *;have ATD:bit=0\/bit=1:=(by omega);have hs1:(q*2+1)*d=2*(q*d)+d:=(by grind);have hs0:q*2*d=2*(q*d):=(by grind);by_cases hc:r/9223372036854775808=1
   · refine Ev.AK hc ?_
     rw[wu];exact ih (by omega) _ _ (by omega) (by omega) (by omega) (by rw[hs1];omega)
   · refine Ev.AM hc ?_
     by_cases hc2:(r*2+bit)%18446744073709551616>=d
     · refine Ev.AK hc2 ?_
       rw[wu];exact ih (by omega) _ _ (by omega) (by omega) (by omega) (by rw[hs1];omega)
     · refine Ev.AM hc2 ?_
       exact ih (by omega) _ _ (by omega) (by omega) (by omega) (by rw[hs0];omega)
theorem xG {hi lo d:Int} (hhi:0<=hi) (hlt:hi<d) (hd:d<18446744073709551616) (hlo:U lo) :
 Ev (λk=>EB.f k hi lo d) ((hi*18446744073709551616+lo)/d,(hi*18446744073709551616+lo)%d,true):=by
 refine Ev.AM (by omega) ?_;refine xV hhi hlt hd hlo 64 (by omega) 0 hi (by omega) hhi hlt ?_;have:(2:Int)^64=18446744073709551616:=rfl;rw[this];unfold U at hlo;omega
theorem AIy {l:List Int} {n:Nat} (h:n<l.length) (hr:rd l (n:Int)≠0):Cn (l.take (n+1)):=by
 rw[JY h];exact .inr (by rw[List.getLast?_append];simpa using hr)
theorem sw {l:List Int} (h:Ws l) {n:Nat} (hn:n<l.length) (hr:rd l (n:Int)≠0) (he:nv (l.take (n+1))=nv l):dg (nv l)=l.take (n+1):=by
 rw[<-he,APz (En h _) (AIy hn hr)]
theorem AAw {l:List Int} (h:Wl l) (n:Nat):n<=l.length->nv (l.take n)=nv l->Ev (λk=>Bm.l0 k l n) ((dg (nv l)).length:Int):=by
 obtain⟨hw,hl⟩:=h;induction n with
 | zero =>
   intro hn he;refine Ev.step (λk=>Bm.l0.eq_2 ..) ?_;refine Ev.AM (by omega) (Ev.same ?_);rw[<-he];rfl
 | succ n ih =>
   intro hn he;have e:wrap64 (((n+1:Nat):Int)-1)=(n:Int):=(by rw[AG (by omega) (by omega)];omega);refine Ev.step (λk=>Bm.l0.eq_2 ..) ?_;refine Ev.AK (by omega) ?_;rw[e];refine Ev.AK (by omega) (Ev.AK (by omega) ?_);by_cases hr:rd l (n:Int)=0
   · refine Ev.AK hr (ih (by omega) ?_)
     rw[<-he,B4 (by omega),hr,AVN,AVM]
   · refine Ev.AM hr (Ev.same ?_)
     rw[sw hw (by omega) hr he,AUJ,AUa (by omega)]
theorem Lh {l:List Int} (h:Wl l):Ev (λk=>Bm.f k l) ((dg (nv l)).length:Int) :=
 AAw h l.length (AUN _) (by rw[AVP])
theorem bU {l:List Int} (h:Ws l) : ∃r,l=dg (nv l)++r/\nv r=0:=by
 have key : ∀n,n<=l.length->nv (l.take n)=nv l->l.take (dg (nv l)).length=dg (nv l):=by
  intro n;induction n with
  | zero=>intro _ he;rw[<-he];rfl
  | succ n ih =>
    intro hn he;by_cases hr:rd l (n:Int)=0
    · refine ih (by omega) ?_
      rw[<-he,B4 (by omega),hr,AVN,AVM]
    · rw[sw h (by omega) hr he,AUJ,AUa (by omega)]
 have h1:=key l.length (AUN _) (by rw[AVP]);refine⟨l.drop (dg (nv l)).length, ?_, ?_⟩
 · conv=>rhs;lhs;rw[<-h1]
   rw[AVi]
 · have h2:=ZG l (dg (nv l)).length
   rw[h1,AR (AS h)] at h2;have h3:=Ft (min (dg (nv l)).length l.length);have h4:Wp (min (dg (nv l)).length l.length)*nv (l.drop (dg (nv l)).length)=0:=(by omega);rcases AW4.1 h4 with h5 | h5
   · omega
   · exact h5
theorem GO {l:List Int} (h:Ws l):(dg (nv l)).length<=l.length:=Nt (MS h)
theorem sx {l:List Int} (h:Ws l):l.take (dg (nv l)).length=dg (nv l):=by
 obtain⟨r,hr,_⟩:=bU h
 conv=>lhs;rhs;rw[hr]
 simp
theorem AP0 {l:List Int} (h:Ws l) (i:Int):rd l i=rd (dg (nv l)) i:=by
 obtain⟨r,hr,hz⟩:=bU h;have hrz : ∀(r:List Int),Ws r->nv r=0-> ∀j,r.getD j 0=0:=by
  intro r;induction r with
  | nil=>intro _ _ j;simp
  | cons x r ih =>
    intro hw h0 j;have h1:=Ht.1 hw;have h2:=AS h1.2;unfold U at h1;rw[Ck] at h0;cases j with
    | zero=>simp;omega
    | succ j=>simpa using ih h1.2 (by omega) j
 have hwr:Ws r:=(bS.1 (hr▸h)).2;unfold rd
 conv=>lhs;rw[hr]
 rw[AUF,AUF];rcases AUq i.toNat (dg (nv l)).length with hi | hi
 · rw[AVA hi]
 · rw[AVH hi,AUm hi,<-AUF,hrz r hwr hz]
   rfl
theorem DL {l:List Int} (h:Wl l):Ev (λk=>Ay.f k l) (dg (nv l)):=by
 obtain⟨hw,hl⟩:=h;have hd:=GO hw;refine Ev.AP rfl ?_;refine Ev.bind (Lh ⟨hw,hl⟩) ?_;rw[AUD,sx hw];refine Ev.AK (by omega) (Ev.AK (by omega) (Ev.AK (by rw[AWb];omega) ?_));exact Ev.same (by rw[AV1])
theorem Tu {x:Int} (h:U x):Ev (λk=>Kw.f k x) (dg x):=by
 have:=DL (l:= [x]) ⟨Gf h,by simp⟩;rw[Fp] at this;exact Ev.bind this (Ev.same rfl)
theorem cq {l:List Int} (h:Wl l):JU.f l=some (decide (dg (nv l)=l)):=by
 obtain⟨hw,hl⟩:=h;unfold JU.f;by_cases h0:(l.length:Int)=0
 · rw[if_pos h0]
   have:l= []:=AU0 (by omega);subst this;rfl
 · have e:wrap64 ((l.length:Int)-1)=((l.length-1:Nat):Int):=by rw[AG (by omega) (by omega)];omega
   have hln:l.length-1+1=l.length:=(by omega);rw[if_neg h0,e,if_pos (by omega),if_pos (by omega)]
   congr 1
   by_cases hr:rd l ((l.length-1:Nat):Int)=0
   · rw[hr]
     have hne:dg (nv l)≠l:=by
      intro hd;have hc:=APy (AS hw);rw[hd] at hc;have h1:=JY (l:=l) (i:=l.length-1) (by omega);rw[hln,AVP,hr] at h1;rcases hc with hc | hc
      · rw[hc] at h0;exact h0 rfl
      · rw[h1] at hc;simp at hc
     simp[hne]
   · have:=sw hw (n:=l.length-1) (by omega) hr (by rw[hln,AVP])
     rw[hln,AVP] at this;simp[this,hr]
theorem AIz {n:Int} (h:U n):dg n=if n=0 then[] else[n]:=by
 unfold U at h;split
 · rename_i h0;rw[h0];rfl
 · rw[N6 (by omega),show n/18446744073709551616=0 by omega,IZ,show n%18446744073709551616=n by omega]
theorem C1 {n:Int} (h:0<=n):(dg n).length=0↔n=0:=by
 constructor
 · intro h1
   have:=AR h;rw[AU0 h1] at this;exact this.symm
 · intro h1;rw[h1];rfl
theorem XZ {l:List Int} (h:Wl l):Ev (λk=>J2.f k l) (if nv l<18446744073709551616 then(nv l,true) else(0,false)):=by
 obtain⟨hw,hl⟩:=h;have hn:=AS hw;refine Ev.bind (Lh ⟨hw,hl⟩) ?_;by_cases h0:nv l=0
 · have h1:(dg (nv l)).length=0:=(C1 hn).2 h0
   refine Ev.AK (by omega) (Ev.same ?_);rw[h0,if_pos (by omega)]
 · have h1:(dg (nv l)).length≠0:=λh=>h0 ((C1 hn).1 h)
   refine Ev.AM (by omega) ?_;by_cases h2:nv l<18446744073709551616
   · have hd:=AIz (n:=nv l) ⟨hn,h2⟩
     rw[if_neg h0] at hd;rw[if_pos h2];refine Ev.AK (by rw[hd];rfl) (Ev.AK ?_ (Ev.same ?_))
     · have:=GO hw;rw[hd] at this;simp at this;omega
     · rw[AP0 hw,hd];rfl
   · rw[if_neg h2]
     refine Ev.AM ?_ (Ev.same rfl);have:=pF (n:=nv l) (m:=1) (by show(18446744073709551616:Int)^1<=_;omega);omega
def Gt (x y:Int):Int:=if x<y then -1 else if y<x then 1 else 0
theorem iF {x y:Int} (h:x<y):Gt x y= -1:=by unfold Gt;rw[if_pos h]
theorem sy {x y:Int} (h:y<x):Gt x y=1:=by unfold Gt;rw[if_neg (by omega),if_pos h]
theorem xW {x y:Int} :Gt x y<0↔x<y:=by unfold Gt;split<;>(try split)<;>omega
theorem ACv {a b:List Int} (ha:Ws a) (hb:Ws b) {i:Nat} (h1:i<a.length) (h2:i<b.length) (hlt:rd a (i:Int)<rd b (i:Int)):nv (a.take (i+1))<nv (b.take (i+1)):=by
 rw[B4 h1,B4 h2];have c1:=MS (En ha i);have c2:=AS (En hb i);rw[AUJ,AUa (by omega)] at c1;have c3:=Ft i;have c4:=AUb (show rd a (i:Int)+1<=rd b (i:Int) by omega) (AUE c3);rw[AVp,AUk] at c4;omega
theorem ADr {a b:List Int} (ha:Wl a) (hb:Wl b) (n:Nat):n<=a.length->n<=b.length->Ev (λk=>El.l0 k a b ((n:Int)-1)) (Gt (nv (a.take n)) (nv (b.take n))):=by
 obtain⟨haw,hal⟩:=ha;obtain⟨hbw,hbl⟩:=hb;induction n with
 | zero =>
   intro _ _;refine Ev.step (λk=>El.l0.eq_2 ..) ?_;exact Ev.AM (by omega) (Ev.same rfl)
 | succ n ih =>
   intro h1 h2;have e:((n+1:Nat):Int)-1=(n:Int):=(by omega);rw[e];refine Ev.step (λk=>El.l0.eq_2 ..) ?_;refine Ev.AK (by omega) (Ev.AK (by omega) (Ev.AK (by omega) (Ev.AK (by omega) ?_)));by_cases c1:rd a (n:Int)<rd b (n:Int)
   · exact Ev.AK c1 (Ev.same (by rw[iF (ACv haw hbw (by omega) (by omega) c1)]))
   · refine Ev.AM c1 ?_
     by_cases c2:rd a (n:Int)>rd b (n:Int)
     · exact Ev.AK c2 (Ev.same (by rw[sy (ACv hbw haw (by omega) (by omega) c2)]))
     · refine Ev.AM c2 ?_
       rw[AG (by omega) (by omega)];have e2:rd a (n:Int)=rd b (n:Int):=(by omega);refine(ih (by omega) (by omega)).WS ?_;rw[B4 (by omega),B4 (by omega),e2];unfold Gt;split<;>split<;>first | omega | (split<;>first | omega | (split<;>omega))
theorem Xe {l:List Int} (h:Ws l):nv (l.take (dg (nv l)).length)=nv l:=by rw[sx h,AR (AS h)]
theorem pG {x y:Int} (hx:0<=x) (hy:0<=y) (h:(dg x).length<(dg y).length):x<y:=by
 have h1:=QO hx;have h2:=bT (n:=y) (by
  rcases(show y=0\/0<y by omega) with h0 | h0
  · rw[h0,IZ] at h;simp at h
  · exact h0)
 have:=kV (show(dg x).length<=(dg y).length-1 by omega);omega
theorem Vc {a b:List Int} (ha:Wl a) (hb:Wl b):Ev (λk=>El.f k a b) (Gt (nv a) (nv b)):=by
 have hla:=GO ha.1;have hlb:=GO hb.1;refine Ev.bind (Lh ha) (Ev.bind (Lh hb) ?_);by_cases h:(dg (nv a)).length=(dg (nv b)).length
 · refine Ev.AK (by omega) ?_
   have hl:=ha.2;rw[AG (by omega) (by omega)];refine(ADr ha hb (dg (nv a)).length hla (by omega)).WS ?_;rw[Xe ha.1]
   conv=>lhs;rhs;rw[h]
   rw[Xe hb.1]
 · refine Ev.AM (by omega) ?_
   rcases AUq (dg (nv a)).length (dg (nv b)).length with h1 | h1
   · exact Ev.AK (by omega) (Ev.same (by rw[iF (pG (AS ha.1) (AS hb.1) h1)]))
   · exact Ev.AM (by omega) (Ev.same (by rw[sy (pG (AS hb.1) (AS ha.1) (by omega))]))
theorem KF {b:List Int} {i:Nat} (h:b.length<=i):b.take (i+1)=b.take i:=by rw[AUS (by omega),AUS (by omega)]
theorem MB {a:List Int} {x:Int} (ha:Ws a) (hx:U x):Ws (a++ [x]):=bS.2 ⟨ha,Gf hx⟩
theorem xX {out:List Int} {over:Int} (h:Wl (out++ [over])) (hl:out.length<=999999999):Ev (λk=>if out.length<17592186044416 then((Ay.f k (out++ [over])).bind λt183=>(some t183)) else(none)) (dg (nv out+Wp out.length*over)):=by
 refine Ev.AK (by omega) ?_;rw[<-JX];exact Ev.bind (DL h) (Ev.same rfl)
theorem kX {a b:List Int} (ha:Wl a) (hb:Wl b) (hlb:b.length<=a.length) (hla:a.length<=999999999) (d:Nat) : ∀(i:Nat) (out:List Int) (over:Int),i+d=a.length->out.length=i->Ws out->0<=over->over<=1->nv out+Wp i*over=nv (a.take i)+nv (b.take i) ->
 Ev (λk=>Bc.l0 k b out over a (a.length:Int) i) (dg (nv a+nv b)):=by
 induction d with
 | zero =>
   intro i out over hi hlo Ql h0 h1 he;refine Ev.step (λk=>Bc.l0.eq_2 ..) ?_;refine Ev.AM (by omega) ?_;rw[AUS (by omega),AUS (by omega)] at he;rw[<-he,<-hlo];exact xX ⟨MB Ql (by unfold U;omega),by simp;omega⟩ (by omega)
 | succ d ih =>
   intro i out over hi hlo Ql h0 h1 he;have hx:=I5 ha.1 (i:Int);refine Ev.step (λk=>Bc.l0.eq_2 ..) ?_;refine Ev.AK (by omega) (Ev.AK (by omega) (Ev.AK (by omega) ?_));have fin : ∀y:Int,U y->nv (b.take (i+1))=nv (b.take i)+Wp i*y->Ev (λk=>(D8.f (rd a (i:Int)) y over).bind λxY=>(if out.length<17592186044416 then(Bc.l0 k b (out++ [xY.1]) xY.2 a (a.length:Int) (wrap64 ((i:Int)+1))) else(none))) (dg (nv a+nv b)):=by
    intro y hy hby;refine Ev.AP (RJ hx hy (by unfold U;omega)) ?_;dsimp only;refine Ev.AK (by omega) ?_;have e:wrap64 ((i:Int)+1)=((i+1:Nat):Int):=(by rw[AG (by omega) (by omega)];omega);rw[e];unfold U at hx hy;refine ih (i+1) _ _ (by omega) (by simp;omega) (MB Ql (by unfold U;omega)) (by omega) (by omega) ?_;rw[JX,hlo,B4 (l:=a) (by omega),hby,Dl];have hs:(rd a (i:Int)+y+over)=18446744073709551616*((rd a (i:Int)+y+over)/18446744073709551616)+(rd a (i:Int)+y+over)%18446744073709551616:=by omega
    generalize (rd a (i:Int)+y+over)/18446744073709551616=q at *;generalize (rd a (i:Int)+y+over)%18446744073709551616=r at *;generalize rd a (i:Int)=x at *;have:over=18446744073709551616*q+r-x-y:=(by omega);rw[this] at he
    grind
   by_cases hib:(i:Int)<(b.length:Int)
   · exact Ev.AK hib (fin _ (I5 hb.1 _) (B4 (by omega)))
   · refine Ev.AM hib (fin 0 (by unfold U;omega) ?_)
     rw[KF (by omega),AVN,AVM]
theorem xZ (a b out:List Int) : ∀(k:Nat) (over len i:Int),Bc.l1 k b out over a len i=Bc.l0 k b out over a len i:=by
 intro k;induction k generalizing out with
 | zero=>intros;rfl
 | succ k ih=>intros;simp only[Bc.l0,Bc.l1,ih]
theorem bF {a b:List Int} (ha:Wl a) (hb:Wl b) (hla:a.length<=999999999) (hlb:b.length<=999999999):Ev (λk=>Bc.f k a b) (dg (nv a+nv b)):=by
 by_cases h:(a.length:Int)<(b.length:Int)
 · refine Ev.AK h ?_
   rw[AG (by omega) (by omega)];refine Ev.AK (by omega) (Ev.AK (by omega) ?_);rw[AVr];exact kX hb ha (by omega) hlb b.length 0 [] 0 (by omega) rfl Jr (by omega) (by omega) rfl
 · refine Ev.AM h ?_
   rw[AG (by omega) (by omega)];refine Ev.AK (by omega) (Ev.AK (by omega) ?_);exact Ev.congr (λk=>xZ ..) (kX ha hb (by omega) hla a.length 0 [] 0 (by omega) rfl Jr (by omega) (by omega) rfl)
theorem AAx {a b:List Int} (ha:Wl a) (hb:Wl b) (hge:nv b<=nv a) (d:Nat) : ∀(i:Nat) (out:List Int) (under:Int),i+d=a.length->out.length=i->Ws out->0<=under->under<=1->nv out-Wp i*under=nv (a.take i)-nv (b.take i) ->
 Ev (λk=>Dk.l0 k b out under a (a.length:Int) i) (dg (nv a-nv b),true):=by
 have hal:=ha.2;induction d with
 | zero =>
   intro i out under hi hlo Ql h0 h1 he;refine Ev.step (λk=>Dk.l0.eq_2 ..) ?_;refine Ev.AM (by omega) ?_;have hi2:i=a.length:=(by omega);subst hi2;rw[AVP] at he;have uN:=ZG b a.length;have hn1:=AS Ql;have hn2:=MS Ql;rw[hlo] at hn2;have hn3:=AS (En hb.1 a.length);have hn4:=AS (Oz hb.1 a.length);have hn5:=MS ha.1;have hp:=Ft a.length;have hz:Wp (min a.length b.length)*nv (b.drop a.length)=0:=by
    rcases AUq a.length b.length with hlt | hgt
    · rw[AUa (by omega)] at uN ⊢
      rcases(show nv (b.drop a.length)=0\/1<=nv (b.drop a.length) by omega) with h | h
      · rw[h,AVN]
      · have:=AUb h (AUE hp)
        omega
    · rw[AUi hgt];simp[nv]
   have hu:under=0:=by
    rcases(show under=0\/under=1 by omega) with h | h
    · exact h
    · subst h;omega
   subst hu;have e:nv a-nv b=nv out:=(by omega);rw[e];exact Ev.bind (DL ⟨Ql,by omega⟩) (Ev.same rfl)
 | succ d ih =>
   intro i out under hi hlo Ql h0 h1 he;have hx:=I5 ha.1 (i:Int);refine Ev.step (λk=>Dk.l0.eq_2 ..) ?_;refine Ev.AK (by omega) (Ev.AK (by omega) (Ev.AK (by omega) ?_));have fin : ∀y:Int,U y->nv (b.take (i+1))=nv (b.take i)+Wp i*y->Ev (λk=>(FC.f (rd a (i:Int)) y under).bind λxY=>(if out.length<17592186044416 then(Dk.l0 k b (out++ [xY.1]) xY.2 a (a.length:Int) (wrap64 ((i:Int)+1))) else(none))) (dg (nv a-nv b),true):=by
    intro y hy hby;refine Ev.AP (N9 hx hy (by unfold U;omega)) ?_;dsimp only;refine Ev.AK (by omega) ?_;have e:wrap64 ((i:Int)+1)=((i+1:Nat):Int):=(by rw[AG (by omega) (by omega)];omega);rw[e];have hna:=B4 (l:=a) (i:=i) (by omega);unfold U at hx hy;have hs:(rd a (i:Int)-y-under)=18446744073709551616*((rd a (i:Int)-y-under)/18446744073709551616)+(rd a (i:Int)-y-under)%18446744073709551616:=by omega
    have Yc:0<=(rd a (i:Int)-y-under)%18446744073709551616:=(by omega);have hr1:(rd a (i:Int)-y-under)%18446744073709551616<18446744073709551616:=(by omega);have hq0:0<= -((rd a (i:Int)-y-under)/18446744073709551616):=(by omega);have hq1 : -((rd a (i:Int)-y-under)/18446744073709551616)<=1:=(by omega);generalize (rd a (i:Int)-y-under)/18446744073709551616=q at *;generalize (rd a (i:Int)-y-under)%18446744073709551616=r at *;generalize rd a (i:Int)=x at *;have hl1:(out++ [r]).length=i+1:=(by rw[AUR,hlo];rfl);refine ih (i+1) (out++ [r]) (-q) (by omega) hl1 (MB Ql ⟨Yc,hr1⟩) hq0 hq1 ?_;rw[JX,hlo,hna,hby,Dl];have:under=x-y-18446744073709551616*q-r:=(by omega);rw[this] at he
    grind
   by_cases hib:(i:Int)<(b.length:Int)
   · exact Ev.AK hib (fin _ (I5 hb.1 _) (B4 (by omega)))
   · refine Ev.AM hib (fin 0 (by unfold U;omega) ?_)
     rw[KF (by omega),AVN,AVM]
theorem bG {a b:List Int} (ha:Wl a) (hb:Wl b) (hge:nv b<=nv a):Ev (λk=>Dk.f k a b) (dg (nv a-nv b),true):=by
 have hal:=ha.2;refine Ev.bind (Vc ha hb) ?_;refine Ev.AM (by rw[xW];omega) (Ev.AK (by omega) (Ev.AK (by omega) ?_));exact AAx ha hb hge a.length 0 [] 0 (by omega) rfl Jr (by omega) (by omega) rfl
theorem AAd {a b:List Int} (ha:Wl a) (hb:Wl b) (hlt:nv a<nv b):Ev (λk=>Dk.f k a b) ([],false):=by
 refine Ev.bind (Vc ha hb) ?_;exact Ev.AK (by rw[xW];omega) (Ev.same rfl)
structure Hd (p:Prop):Prop where mk::(out:p)
theorem dH {i m:Nat} (h:m<=i):i+1-m=i-m+1:=by omega
def w7 (n:Int):Nat:=(mn (mx n 0) 65536).toNat
theorem AHD (n:Int):w7 n<=65536:=by unfold w7 mn;split<;>omega
theorem T3 {n:Int} (h0:0<=n) (h1:n<=65536):w7 n=n.toNat:=by unfold w7 mn mx;split<;>split<;>omega
theorem AAy (n:Int):mn (mx n 0) 65536=(w7 n:Int):=by unfold w7 mn mx;split<;>split<;>omega
theorem mul_mod_left (x y:Int):x%18446744073709551616*y%18446744073709551616=x*y%18446744073709551616:=by
 rw[Int.mul_emod,Int.emod_emod_of_dvd _ (Int.dvd_refl _),<-Int.mul_emod]
theorem iG {b:Nat} (h:b<=64):(2:Int)^(64-b)*2^b=18446744073709551616:=by
 rw[<-AUZ,show 64-b+b=64 by omega];rfl
theorem sD (z:Int) {b:Nat} (h:b<=64):z*2^(64-b)%18446744073709551616=2^(64-b)*(z%2^b):=by
 rw[<-iG h,AUQ z,AVu _ _ (pow_pos _)]
theorem ACr (z:Int) {b:Nat} (h:b<=64):z*2^b%18446744073709551616=2^b*(z%2^(64-b)):=by
 have:=sD z (b:=64-b) (by omega)
 rwa [show 64-(64-b)=b by omega] at this
theorem xd (x:Int) {b:Nat} (h:b<=63):x/2/2^(63-b)=x/2^(64-b):=by
 rw[AUt (by omega),show 64-b=(63-b)+1 by omega,AUY,AUQ]
theorem kY {x c:Int} (hx:U x) {b:Nat} (hb:b<=63) (hc0:0<=c) (aU:c<2^b) :
 Go.bits .or .u64 (IntKind.u64.wrap (x*2^b)) c=x*2^b%18446744073709551616+c/\x*2^b=x/2^(64-b)*18446744073709551616+x*2^b%18446744073709551616/\0<=x/2^(64-b)/\x/2^(64-b)<2^b/\U (x*2^b%18446744073709551616+c):=by
 obtain⟨hx0,hx1⟩:=hx;have hp:=pow_pos b;have Mw:=pow_pos (64-b);have kK:=iG (b:=b) (by omega);have ATE:(2:Int)^b<=2^63:=Ar hb;have e1:=ACr x (b:=b) (by omega);have m0:=AUe x (show(2:Int)^(64-b)≠0 by omega);have m1:=AUd x Mw;have hdm:=AUV x (2^(64-b));have q0:=AUX hx0 (show(0:Int)<=2^(64-b) by omega);have q1:x/2^(64-b)<2^b:=by rw[AUg Mw,AUQ,kK];exact hx1
 have hle:2^b*(x%2^(64-b))+2^b<=18446744073709551616:=by
  rw[<-kK,AUQ (2^(64-b))];have:=AUb (show x%2^(64-b)+1<=2^(64-b) by omega) (AUE hp);rw[AVp,AUk] at this;exact this
 have hnn:0<=2^b*(x%2^(64-b)):=AUM (by omega) m0;refine⟨?_, ?_,q0,q1, ?_⟩
 · rw[wu,e1,Fx b _ _ hnn (AVe _ _) (by omega) hc0 aU (by omega)]
 · rw[e1,<-kK]
   generalize x/2^(64-b)=q at *;generalize x%2^(64-b)=r at *;generalize (2:Int)^(64-b)=P at *;generalize (2:Int)^b=Q at *;rw[<-hdm]
   grind
 · rw[e1];unfold U;omega
theorem ADs {a:List Int} (ha:Wl a) {b m:Nat} (hb:b<=63) (hm:m<=100000) (hla:a.length<=900000000) (d:Nat) : ∀(i:Nat) (out:List Int) (c:Int),i+d=a.length->out.length=m+i->Ws out->0<=c->c<2^b->nv out+Wp (m+i)*c=Wp m*(nv (a.take i)*2^b) ->
 Ev (λk=>CC.l0 k (b:Int) out c a (a.length:Int) i) (dg (Wp m*(nv a*2^b))):=by
 have ATE:(2:Int)^b<=2^63:=Ar hb;induction d with
 | zero =>
   intro i out c hi hlo Ql h0 h1 he;refine Ev.step (λk=>CC.l0.eq_2 ..) ?_;refine Ev.AM (by omega) (Ev.AK (by omega) ?_);rw[AUS (by omega)] at he;rw[<-he,<-hlo,<-JX];exact Ev.bind (DL ⟨MB Ql (by unfold U;omega),by simp;omega⟩) (Ev.same rfl)
 | succ d ih =>
   intro i out c hi hlo Ql h0 h1 he;have hx:=I5 ha.1 (i:Int);obtain⟨w1,w2,w3,w4,w5⟩:=kY hx hb h0 h1;refine Ev.step (λk=>CC.l0.eq_2 ..) ?_;refine Ev.AK (by omega) (Ev.AK (by omega) (Ev.AK (by omega) (Ev.AK (by omega) ?_)));have e:wrap64 ((i:Int)+1)=((i+1:Nat):Int):=(by rw[AG (by omega) (by omega)];omega);have e63:(63-(b:Int)).toNat=63-b:=(by omega);rw[e,AUD,e63,w1,xd _ hb];refine ih (i+1) _ _ (by omega) (by rw[AUR,hlo];rfl) (MB Ql w5) w3 w4 ?_;rw[JX,hlo,B4 (by omega),show m+(i+1)=m+i+1 by omega,Dl];have hwa:=UB m i;generalize rd a (i:Int)/2^(64-b)=q at *;generalize rd a (i:Int)*2^b%18446744073709551616=r at *;rw[AVt,AVp (Wp m),<-he];have:Wp i*rd a (i:Int)*2^b=Wp i*(q*18446744073709551616+r):=(by rw[AUl,w2]);rw[this,hwa]
   grind
theorem Vf {a:List Int} (ha:Wl a) (hla:a.length<=900000000) (n:Int):Ev (λk=>CC.f k a n) (dg (nv a*2^w7 n)):=by
 have hs:=AHD n;obtain⟨b,m,hb,hm,hbm⟩ : ∃b m:Nat,b<=63/\m<=1024/\w7 n=64*m+b:=⟨w7 n%64,w7 n/64,by omega,by omega,by omega⟩;have e1:mn (mx n 0) 65536/64=(m:Int):=by rw[AAy];omega
 have e2:mn (mx n 0) 65536%64=(b:Int):=by rw[AAy];omega
 unfold CC.f;rw[e1,e2];have e3:wrap64 (wrap64 ((m:Int)+(a.length:Int))+1)=(m:Int)+(a.length:Int)+1:=by
  rw[AG (n:=(m:Int)+(a.length:Int)) (by omega) (by omega),AG (by omega) (by omega)]
 rw[e3];refine Ev.AK (by omega) (Ev.AK (by omega) (Ev.AK (by omega) ?_));rw[AUD];refine(ADs (m:=m) ha hb (by omega) hla a.length 0 (List.replicate m 0) 0 (by omega) (by simp) (ZF _) (by omega) (pow_pos b) ?_).WS ?_
 · rw[UC];simp[nv]
 · rw[hbm,AUZ,<-Hr]
   congr 1
   grind
theorem kZ {y z T:Int} (hy:U y) (hz:U z) {b:Nat} (hb:b<=63) (hT : ∃t,T=z+18446744073709551616*t) :
 Go.bits .or .u64 (y/2^b) (IntKind.u64.wrap (IntKind.u64.wrap (z*2)*2^(63-b)))=y/2^b+2^(64-b)*(z%2^b)/\U (y/2^b+2^(64-b)*(z%2^b))/\(y+18446744073709551616*T)/2^b=y/2^b+2^(64-b)*(z%2^b)+18446744073709551616*(T/2^b):=by
 obtain⟨hy0,hy1⟩:=hy;obtain⟨zG,hz1⟩:=hz;have hp:=pow_pos b;have Mw:=pow_pos (64-b);have kK:=iG (b:=b) (by omega);have m0:=AUe z (show(2:Int)^b≠0 by omega);have m1:=AUd z hp;have q0:=AUX hy0 (show(0:Int)<=2^b by omega);have q1:y/2^b<2^(64-b):=by rw[AUg hp,kK];exact hy1
 have hle:2^(64-b)*(z%2^b)+2^(64-b)<=18446744073709551616:=by
  rw[<-kK];have:=AUb (show z%2^b+1<=2^b by omega) (AUE Mw);rw[AVp,AUk] at this;exact this
 have hnn:0<=2^(64-b)*(z%2^b):=AUM (by omega) m0;have hsh:IntKind.u64.wrap (IntKind.u64.wrap (z*2)*2^(63-b))=2^(64-b)*(z%2^b):=by
  rw[wu,wu,mul_mod_left,<-sD z (b:=b) (by omega),AUl,show(2:Int)*2^(63-b)=2^(64-b) by rw[show 64-b=(63-b)+1 by omega,AUY,AUQ]]
 refine⟨?_,by unfold U;omega, ?_⟩
 · rw[hsh,or_comm _ _ q0 (by omega) hnn (by omega),Fx (64-b) _ _ hnn (AVe _ _) (by omega) q0 q1 (by omega)]
   omega
 · obtain⟨t,ht⟩:=hT
   have hTm:T%2^b=z%2^b:=by
    rw[ht,<-kK,show z+2^(64-b)*2^b*t=z+2^b*(2^(64-b)*t) by grind,AU6]
   have hTd:=AUV T (2^b);have e:y+18446744073709551616*T=y+2^b*(2^(64-b)*T):=(by rw[<-kK];grind);rw[e,AUy _ _ (by omega)]
   conv=>lhs;rhs;rw[<-hTd,hTm]
   rw[<-kK]
   grind
theorem pH {y T:Int} (hy:U y) {b:Nat} (hb:b<=63) (hT:T=0):Go.bits .or .u64 (y/2^b) 0=y/2^b/\U (y/2^b)/\(y+18446744073709551616*T)/2^b=y/2^b+18446744073709551616*(T/2^b):=by
 have h:=kZ (T:=0) hy (z:=0) (by unfold U;omega) hb ⟨0,by omega⟩;simp only[AVO,Int.zero_emod,AVN,AVM,AXS] at h;subst hT;refine⟨?_,h.2.1,by simp⟩;have h1:=h.1;rw[wu,wu] at h1;simpa using h1
theorem KG {l:List Int} {i:Nat} (h:i<l.length):l.drop i=rd l (i:Int)::l.drop (i+1):=by
 rw[AXG h];unfold rd;rw[AUD,AUF,AUT h];rfl
theorem ADt {a:List Int} (ha:Wl a) {b m:Nat} (hb:b<=63) (d:Nat) : ∀(i:Nat) (out:List Int),i+d=a.length->m<=i->out.length=i-m->Ws out->nv out+Wp (i-m)*(nv (a.drop i)/2^b)=nv (a.drop m)/2^b ->
 Ev (λk=>EO.l0 k a (b:Int) out i) (dg (nv (a.drop m)/2^b)):=by
 have hal:=ha.2;induction d with
 | zero =>
   intro i out hi hmi hlo Ql he;refine Ev.step (λk=>EO.l0.eq_2 ..) ?_;refine Ev.AM (by omega) ?_;rw[AUi (show a.length<=i by omega)] at he;simp[nv] at he;rw[<-he];exact Ev.bind (DL ⟨Ql,by omega⟩) (Ev.same rfl)
 | succ d ih =>
   intro i out hi hmi hlo Ql he;have hx:=I5 ha.1 (i:Int);rw[KG (by omega),Ck] at he;have HE:=Hd.mk he;clear he;have hsub:=dH hmi;have e:wrap64 ((i:Int)+1)=((i+1:Nat):Int):=(by rw[AG (by omega) (by omega)];omega);have e63:(63-(b:Int)).toNat=63-b:=(by omega);refine Ev.step (λk=>EO.l0.eq_2 ..) ?_;refine Ev.AK (by omega) ?_;rw[e,AUD,e63];by_cases hn:((i+1:Nat):Int)<(a.length:Int)
   · refine Ev.AK hn (Ev.AK (by omega) (Ev.AK (by omega) (Ev.AK (by omega) ?_)))
     obtain⟨w1,w2,w3'⟩:=kZ (T:=nv (a.drop (i+1))) hx (I5 ha.1 ((i+1:Nat):Int)) hb ⟨nv (a.drop (i+1+1)),by rw[KG (show i+1<a.length by omega),Ck]⟩;have W3:=Hd.mk w3';clear w3';rw[w1];refine ih (i+1) _ (by omega) (by omega) (by rw[AUR,hlo,hsub];rfl) (MB Ql w2) ?_;have he:=HE.out;rw[W3.out] at he;rw[JX,hlo,hsub,Dl,<-he]
     grind
   · refine Ev.AM hn (Ev.AK (by omega) (Ev.AK (by omega) ?_))
     have hz:nv (a.drop (i+1))=0:=(by rw[AUi (by omega)];rfl);obtain⟨w1,w2,w3'⟩:=pH hx hb hz;have W3:=Hd.mk w3';clear w3';rw[w1];refine ih (i+1) _ (by omega) (by omega) (by rw[AUR,hlo,hsub];rfl) (MB Ql w2) ?_;have he:=HE.out;rw[W3.out] at he;rw[JX,hlo,hsub,Dl,<-he]
     grind
theorem QT {a:List Int} (ha:Ws a) (m:Nat):nv a/Wp m=nv (a.drop m):=by
 have h1:=ZG a m;have h2:=MS (En ha m);have h3:=AS (En ha m);have h4:=Ft m;rw[AUJ] at h2;rcases AUq m a.length with h | h
 · rw[AUa (by omega)] at h1 h2
   rw[h1,AUy _ _ (by omega),AUo h3 h2,AWY]
 · have h5:=MS ha
   have h6:=kV h;rw[AUi h,AUo (AS ha) (by omega)];rfl
theorem ox {a:List Int} (ha:Wl a) {n:Int} (hn:n<=9223372036854775807):Ev (λk=>EO.f k a n) (dg (nv a/2^n.toNat)):=by
 have hal:=ha.2;have hmx:mx n 0=(n.toNat:Int):=by unfold mx;split<;>omega
 obtain⟨b,m,hb,hbm⟩ : ∃b m:Nat,b<=63/\n.toNat=64*m+b:=⟨n.toNat%64,n.toNat/64,by omega,by omega⟩;have e1:wrap64 ((n.toNat:Int)/64)=(m:Int):=by rw[AG (by omega) (by omega)];omega
 have e2:(n.toNat:Int)%64=(b:Int):=by omega
 have hdiv:nv a/2^n.toNat=nv (a.drop m)/2^b:=by
  have hp:=Ft m;rw[hbm,AUZ,<-Hr,<-AUt (by omega),QT ha.1]
 unfold EO.f;rw[hmx,e1,e2,hdiv];by_cases h:(m:Int)>=(a.length:Int)
 · refine Ev.AK h (Ev.same ?_)
   rw[AUi (by omega)];simp[nv,IZ]
 · refine Ev.AM h ?_
   rw[AG (by omega) (by omega)];refine Ev.AK (by omega) (Ev.AK (by omega) ?_);refine ADt ha hb (a.length-m) m [] (by omega) (by omega) (by simp) Jr ?_;simp[nv,Oy]
theorem dI {l:List Int} (h:Ws l) {n:Nat} (hn:(dg (nv l)).length=n+1):bl (nv l)=64*n+bl (rd l (n:Int))/\0<rd l (n:Int):=by
 have h0:=AS h;have hle:=GO h;have h1:=Xe h;rw[hn,B4 (by omega)] at h1;have h2:=MS (En h n);have h3:=AS (En h n);rw[AUJ,AUa (by omega)] at h2;have hp:=Ft n;have hpos:0<nv l:=by
  rcases(show nv l=0\/0<nv l by omega) with h4 | h4
  · rw[h4] at hn;simp[IZ] at hn
  · exact h4
 have h5:=bT hpos;rw[hn] at h5;have hu:=I5 h (n:Int);have hr:1<=rd l (n:Int):=by
  rcases(show rd l (n:Int)<=0\/1<=rd l (n:Int) by omega) with h6 | h6
  · have:Wp n*rd l (n:Int)<=0:=Int.mul_nonpos_of_nonneg_of_nonpos (by omega) h6
    simp at h5;omega
  · exact h6
 have hq:nv l/2^(64*n)=rd l (n:Int):=by
  rw[<-Hr,<-h1,AUy _ _ (by omega),AUo h3 h2,AWY]
 have h7:2^(64*n)<=nv l:=by rw[<-Hr];simpa using h5
 refine⟨?_,by omega⟩;rw[Tz h7,hq];omega
theorem Hj {l:List Int} (h:Wl l):Ev (λk=>DB.f k l) (bl (nv l)):=by
 have hl:=h.2;have hle:=GO h.1;have h0:=AS h.1;refine Ev.bind (Lh h) ?_;by_cases hz:(dg (nv l)).length=0
 · refine Ev.AK (by omega) (Ev.same ?_)
   rw[(C1 h0).1 hz,L8]
 · obtain⟨n,hn⟩ : ∃n,(dg (nv l)).length=n+1:=⟨(dg (nv l)).length-1,by omega⟩
   obtain⟨hb,hr⟩:=dI h.1 hn;have e:wrap64 (((dg (nv l)).length:Int)-1)=(n:Int):=(by rw[AG (by omega) (by omega)];omega);have hu:=I5 h.1 (n:Int);have uN:=Sn hu.2;have hb3:=CI (rd l (n:Int));refine Ev.AM (by omega) ?_;rw[e];refine Ev.AK (by omega) (Ev.AK (by omega) (Ev.bind (Gg hu) (Ev.same ?_)));rw[hb,AG (n:=64*(n:Int)) (by omega) (by omega),AG (by omega) (by omega)]
def bL (x i:Int):Bool:=decide (0<=i)&&decide (x/2^i.toNat%2=1)
theorem xe {l:List Int} (h:Ws l) (i:Nat):nv l/2^i%2=rd l ((i/64:Nat):Int)/2^(i%64)%2:=by
 have e:i=64*(i/64)+i%64:=by omega
 have hp:=Ft (i/64)
 conv=>lhs;rw[e,AUZ,<-Hr,<-AUt (AUE hp),QT h]
 rcases AUq (i/64) l.length with h1 | h1
 · rw[KG h1,Ck]
   have e2:(18446744073709551616:Int)=2^(i%64)*(2^(63-i%64)*2):=by
    rw[show(2:Int)^(63-i%64)*2=2^(64-i%64) by rw[show 64-i%64=(63-i%64)+1 by omega,AUY],<-AUZ,show i%64+(64-i%64)=64 by omega];rfl
   have Mw:=pow_pos (i%64);rw[e2,AUl,AUy _ _ (by omega),show(2:Int)^(63-i%64)*2*nv (l.drop (i/64+1))=2*(2^(63-i%64)*nv (l.drop (i/64+1))) by grind,AU6]
 · rw[AUi h1]
   unfold rd;rw[AUF,AUD,AUm h1];simp[nv]
theorem AHE {x:Int} (h:U x) (i:Nat) (hi:i<64):(Go.bits .and .u64 (shr .u64 x (i:Int)) 1==1)=decide (x/2^i%2=1):=by
 have hr:=Wd h i;rw[WV _ _ (by omega),AUD,ALP _ hr.1 (by unfold U at h;omega)];by_cases hb:x/2^i%2=1<;>simp[hb]
def AI0 (l0:List Int) (a1:Int):Option (Bool):=if a1>=0 then(if(wrap64 (Int.tdiv a1 64))<(l0.length:Int) then(if 0<=(wrap64 (Int.tdiv a1 64)) then(if 0<=(Int.tmod a1 64) then(some ((Go.bits .and .u64 (shr .u64 (rd l0 (wrap64 (Int.tdiv a1 64))) (Int.tmod a1 64)) 1)==1)) else(none)) else(none)) else(some false)) else(some false)
theorem AHF {l:List Int} (h:Wl l) {i:Int} (hi:i<=9223372036854775807):AI0 l i=some (bL (nv l) i):=by
 have hl:=h.2;unfold AI0 bL;by_cases h0:i>=0
 · obtain⟨n,rfl⟩:=AUP h0
   have hb:=xe h.1 n;rw[if_pos h0,AU4 h0,AU5 h0,AG (by omega) (by omega),AUD,hb];have e1:(n:Int)/64=((n/64:Nat):Int):=(by omega);have e2:(n:Int)%64=((n%64:Nat):Int):=(by omega);rw[e1,e2];by_cases h1:((n/64:Nat):Int)<(l.length:Int)
   · rw[if_pos h1,if_pos (by omega),if_pos (by omega),AHE (I5 h.1 _) _ (by omega)]
     simp
   · rw[if_neg h1]
     have:rd l ((n/64:Nat):Int)=0:=by
      unfold rd;rw[AUF,AUD,AUm (by omega)];rfl
     rw[this];simp
 · rw[if_neg h0]
   simp;omega
theorem bK {l:List Int} (h:Wl l) {i:Int} (hi:i<=9223372036854775807):NS.f l i=some (bL (nv l) i):=AHF h hi
def tzF:Nat->Int->Int
 | 0,_=>0
 | k+1,x=>if x%2=1 then 0 else 1+tzF k (x/2)
def tz (x:Int):Int:=if x<=0 then 0 else tzF x.toNat x
theorem xg : ∀(k:Nat) (x:Int),0<x->x.toNat<=k-> ∃n:Nat,tzF k x=n/\x/2^n%2=1/\ ∀j,j<n->x/2^j%2=0
 | 0,x,h,hk=>by omega
 | k+1,x,h,hk=>by
   unfold tzF;by_cases h1:x%2=1
   · exact⟨0,by rw[if_pos h1];rfl,by simpa using h1,λj hj=>by omega⟩
   · obtain⟨n,e,h2,h3⟩:=xg k (x/2) (by omega) (by omega)
     have hd : ∀j:Nat,x/2^(j+1)=x/2/2^j:=λj=>by
      rw[AUt (by omega),AUY,AUQ]
     refine⟨n+1,by rw[if_neg h1,e];omega,by rw[hd];exact h2,λj hj=> ?_⟩;cases j with
     | zero=>rw[AUW,AU9];omega
     | succ j=>rw[hd];exact h3 j (by omega)
theorem Y3 {x:Int} (h:0<x) : ∃n:Nat,tz x=n/\x/2^n%2=1/\ ∀j,j<n->x/2^j%2=0:=by
 unfold tz;rw[if_neg (by omega)];exact xg _ x h (AUN _)
theorem pI {x:Int} (h:0<x):tz x<bl x:=by
 obtain⟨n,e,h1,_⟩:=Y3 h;rcases AU1 (tz x) (bl x) with h2 | h2
 · exact h2
 · have h3:=F1 x
   have h4:=Ar (a:=(bl x).toNat) (b:=n) (by omega);rw[AUo (by omega) (by omega)] at h1;omega
theorem AAz {l:List Int} (h:Wl l) {n:Nat} (he:tz (nv l)=n) (h1:nv l/2^n%2=1) (h2 : ∀j,j<n->nv l/2^j%2=0) {len:Int} (hlen:(n:Int)<len) (hn:n<=100000000000) (d:Nat) : ∀i:Nat,i+d=n->Ev (λk=>EX.l0 k l len i) (n:Int):=by
 induction d with
 | zero =>
   intro i hi;obtain rfl:i=n:=by omega
   refine Ev.step (λk=>EX.l0.eq_2 ..) ?_;refine Ev.AK hlen (Ev.AP (bK h (by omega)) ?_);refine Ev.AK ?_ (Ev.same rfl);unfold bL;rw[AUD,h1];simp
 | succ d ih =>
   intro i hi;refine Ev.step (λk=>EX.l0.eq_2 ..) ?_;refine Ev.AK (by omega) (Ev.AP (bK h (by omega)) ?_);refine Ev.AM ?_ ?_
   · unfold bL
     rw[AUD,h2 i (by omega)];simp
   · have e:wrap64 ((i:Int)+1)=((i+1:Nat):Int):=by rw[AG (by omega) (by omega)];omega
     rw[e];exact ih (i+1) (by omega)
theorem AAi {l:List Int} (h:Wl l):Ev (λk=>EX.f k l) (tz (nv l)):=by
 have hl:=h.2;have hb:=GG h.1;have h0:=AS h.1;refine Ev.bind (Hj h) ?_;rcases(show nv l=0\/0<nv l by omega) with hz | hp
 · rw[hz]
   refine Ev.step (λk=>EX.l0.eq_2 ..) ?_;exact Ev.AM (by rw[L8];omega) (Ev.same rfl)
 · obtain⟨n,e,h1,h2⟩:=Y3 hp
   have:=pI hp;rw[e];exact AAz h e h1 h2 (by omega) (by omega) n 0 (by omega)
theorem nV (l:List Int) : ∀(k:Nat) (i:Int),Be.l0 k l i=Bm.l0 k l i:=by
 intro k;induction k with
 | zero=>intros;rfl
 | succ k ih=>intros;simp only[Be.l0,Bm.l0,ih]
theorem Du {l:List Int} (h:Wl l):Ev (λk=>Be.f k l) ((dg (nv l)).length:Int):=Ev.congr (λk=>nV ..) (Lh h)
theorem s8 {l:List Int} (hl:l.length<=1000000000) {n:Nat} (hn:n<=l.length) (d:Nat) : ∀i:Nat,i+d=n->Ev (λk=>A8.l0 k l (l.take i) (n:Int) i) (l.take n):=by
 induction d with
 | zero =>
   intro i hi;refine Ev.step (λk=>A8.l0.eq_2 ..) ?_;obtain rfl:i=n:=by omega
   exact Ev.AM (by omega) (Ev.same rfl)
 | succ d ih =>
   intro i hi;have e:wrap64 ((i:Int)+1)=((i+1:Nat):Int):=(by rw[AG (by omega) (by omega)];omega);refine Ev.step (λk=>A8.l0.eq_2 ..) ?_;refine Ev.AK (by omega) (Ev.AK (by omega) (Ev.AK (by omega) (Ev.AK (by rw[AUJ];omega) ?_)));rw[e,<-JY (by omega)];exact ih (i+1) (by omega)
theorem B7 {l:List Int} (h:Wl l):Ev (λk=>A8.f k l) (dg (nv l)):=by
 have h1:=GO h.1;refine Ev.bind (Du h) ?_;have:=s8 h.2 h1 (dg (nv l)).length 0 (by omega);rw[sx h.1] at this;exact this
theorem ke {l:List Int} {i:Nat} (h:l.length<=i):rd l (i:Int)=0:=by
 unfold rd;rw[AUF,AUD,AUm h];rfl
theorem OA (l:List Int) (i:Nat):IY.f l (i:Int)=some (rd l (i:Int)):=by
 unfold IY.f;rw[if_neg (by omega)];by_cases h:(i:Int)>=(l.length:Int)
 · rw[if_pos h,ke (by omega)]
 · rw[if_neg h,if_pos (by omega),if_pos (by omega)]
theorem K8 (l:List Int) (i:Nat):nv (l.take (i+1))=nv (l.take i)+Wp i*rd l (i:Int):=by
 rcases AUq i l.length with h | h
 · exact B4 h
 · rw[ke h,KF h,AVN,AVM]
theorem AA0 {l:List Int} (h:Ws l) (i:Nat):nv (l.take i)<Wp i:=by
 have h1:=MS (En h i);have h2:=kV (List.length_take_le i l);omega
theorem xh {a b:List Int} (ha:Ws a) (hb:Ws b) {i:Nat} (hlt:rd a (i:Int)<rd b (i:Int)):nv (a.take (i+1))<nv (b.take (i+1)):=by
 rw[K8,K8];have c1:=AA0 ha i;have c2:=AS (En hb i);have c3:=Ft i;have c4:=AUb (show rd a (i:Int)+1<=rd b (i:Int) by omega) (AUE c3);rw[AVp,AUk] at c4;omega
theorem AHG (x y z:Int):Gt x y=Gt (x+z) (y+z):=by unfold Gt;split<;>split<;>first | omega | (split<;>first | omega | (split<;>omega))
theorem xj {a b:List Int} (ha:Ws a) (hb:Ws b) (n:Nat) (hn:n<=2000000000):Ev (λk=>Bx.l0 k a b ((n:Int)-1)) (Gt (nv (a.take n)) (nv (b.take n))):=by
 induction n with
 | zero =>
   refine Ev.step (λk=>Bx.l0.eq_2 ..) ?_;exact Ev.AM (by omega) (Ev.same rfl)
 | succ n ih =>
   have e:((n+1:Nat):Int)-1=(n:Int):=(by omega);rw[e];refine Ev.step (λk=>Bx.l0.eq_2 ..) ?_;refine Ev.AK (by omega) (Ev.AP (OA a n) (Ev.AP (OA b n) ?_));by_cases c1:rd a (n:Int)<rd b (n:Int)
   · exact Ev.AK c1 (Ev.same (by rw[iF (xh ha hb c1)]))
   · refine Ev.AM c1 ?_
     by_cases c2:rd a (n:Int)>rd b (n:Int)
     · exact Ev.AK c2 (Ev.same (by rw[sy (xh hb ha c2)]))
     · refine Ev.AM c2 ?_
       rw[AG (by omega) (by omega)];have e2:rd a (n:Int)=rd b (n:Int):=(by omega);refine(ih (by omega)).WS ?_;rw[K8,K8,e2];exact AHG ..
theorem GM {a b:List Int} (ha:Wl a) (hb:Wl b):Ev (λk=>Bx.f k a b) (Gt (nv a) (nv b)):=by
 have hal:=ha.2;have hbl:=hb.2;have hm:mx (a.length:Int) (b.length:Int)=((max a.length b.length:Nat):Int):=by unfold mx;split<;>omega
 unfold Bx.f;rw[hm,AG (by omega) (by omega)];refine(xj ha.1 hb.1 (max a.length b.length) (by omega)).WS ?_;rw[AUS (by omega),AUS (by omega)]
theorem Ho {l:List Int} (h:Wl l):Ev (λk=>Df.f k l) (bl (nv l)):=by
 have hl:=h.2;have hle:=GO h.1;have h0:=AS h.1;refine Ev.bind (Du h) ?_;by_cases hz:(dg (nv l)).length=0
 · refine Ev.AK (by omega) (Ev.same ?_)
   rw[(C1 h0).1 hz,L8]
 · obtain⟨n,hn⟩ : ∃n,(dg (nv l)).length=n+1:=⟨(dg (nv l)).length-1,by omega⟩
   obtain⟨hb,hr⟩:=dI h.1 hn;have e:wrap64 (((dg (nv l)).length:Int)-1)=(n:Int):=(by rw[AG (by omega) (by omega)];omega);have hu:=I5 h.1 (n:Int);have uN:=Sn hu.2;have hb3:=CI (rd l (n:Int));refine Ev.AM (by omega) ?_;rw[e];refine Ev.AK (by omega) (Ev.AK (by omega) (Ev.bind (xU hu) (Ev.same ?_)));rw[hb,AG (n:=64*((dg (nv l)).length:Int)) (by omega) (by omega),AG (n:=64*((dg (nv l)).length:Int)-64) (by omega) (by omega),AG (by omega) (by omega)]
   congr 1;omega
theorem tA (l:List Int) {i:Int} (hi:i<=9223372036854775807):G4.f l i=AI0 l i:=by
 unfold G4.f AI0;by_cases h:i>=0
 · rw[if_pos h,if_pos h,AU5 h,DC (n:=i%64) (by omega) (by omega)]
 · rw[if_neg h,if_neg h]
theorem Ou {l:List Int} (h:Wl l) {i:Int} (hi:i<=9223372036854775807):G4.f l i=some (bL (nv l) i):=(tA l hi).trans (AHF h hi)
theorem tB {l:List Int} (h:Wl l) {n:Nat} (h1:nv l/2^n%2=1) (h2 : ∀j,j<n->nv l/2^j%2=0) (hn:n<=100000000000) (d:Nat) : ∀i:Nat,i+d=n->Ev (λk=>Cb.l0 k l i) (n:Int):=by
 induction d with
 | zero =>
   intro i hi;obtain rfl:i=n:=by omega
   refine Ev.step (λk=>Cb.l0.eq_2 ..) ?_;refine Ev.AP (Ou h (by omega)) ?_;refine Ev.AK ?_ (Ev.same rfl);unfold bL;rw[AUD,h1];simp
 | succ d ih =>
   intro i hi;refine Ev.step (λk=>Cb.l0.eq_2 ..) ?_;refine Ev.AP (Ou h (by omega)) ?_;refine Ev.AM ?_ ?_
   · unfold bL
     rw[AUD,h2 i (by omega)];simp
   · have e:wrap64 ((i:Int)+1)=((i+1:Nat):Int):=by rw[AG (by omega) (by omega)];omega
     rw[e];exact ih (i+1) (by omega)
theorem RK {l:List Int} (h:Wl l):Ev (λk=>Cb.f k l) (tz (nv l)):=by
 have hl:=h.2;have hb:=GG h.1;have h0:=AS h.1;refine Ev.bind (Du h) ?_;rcases(show nv l=0\/0<nv l by omega) with hz | hp
 · rw[hz]
   exact Ev.AK rfl (Ev.same rfl)
 · obtain⟨n,e,h1,h2⟩:=Y3 hp
   have:=pI hp;refine Ev.AM (λh=> ?_) ?_
   · have:=(C1 h0).1 (by omega);omega
   · rw[e]
     exact tB h h1 h2 (by omega) n 0 (by omega)
def hv:List Int->Int
 | []=>0
 | x::l=>x+4294967296*hv l
theorem K9 (x:Int) (l:List Int):hv (x::l)=x+4294967296*hv l:=rfl
def Hs (l:List Int):Prop:= ∀x∈l,0<=x/\x<4294967296
def Hp (n:Nat):Int:=4294967296^n
theorem AI1:Hp 0=1:=rfl
theorem KH (n:Nat):Hp (n+1)=4294967296*Hp n:=by unfold Hp;rw[AUY,AUQ]
theorem AA1 (n:Nat):0<Hp n:=by
 induction n with
 | zero=>decide
 | succ n ih=>rw[KH];omega
theorem AP1 {a b:Nat} (h:a<=b):Hp a<=Hp b:=by
 induction b with
 | zero=>obtain rfl:a=0:=by omega
         exact AW6 _
 | succ b ih =>
   rcases(show a=b+1\/a<=b by omega) with h1 | h1
   · rw[h1];exact AW6 _
   · have:=ih h1;have:=AA1 b;rw[KH];omega
theorem AP2 (n:Nat):Hp (2*n)=Wp n:=by
 induction n with
 | zero=>rfl
 | succ n ih=>rw[show 2*(n+1)=2*n+1+1 by omega,KH,KH,ih,Dl];omega
theorem iH {x:Int} {l:List Int} :Hs (x::l)↔(0<=x/\x<4294967296)/\Hs l:=by unfold Hs;simp
theorem AHH {a b:List Int} :Hs (a++b)↔Hs a/\Hs b:=by
 unfold Hs;simp only[AUj];exact⟨λh=>⟨λx hx=>h x (.inl hx),λx hx=>h x (.inr hx)⟩,λh x hx=>hx.elim (h.1 x) (h.2 x)⟩
theorem ACw {a:List Int} {x:Int} (ha:Hs a) (h0:0<=x) (h1:x<4294967296):Hs (a++ [x]):=AHH.2 ⟨ha,λy hy=>by simp at hy;rw[hy];exact⟨h0,h1⟩⟩
theorem AA2:Hs []:=λx h=>by simp at h
theorem ACx {l:List Int} (h:Hs l) (n:Nat):Hs (l.take n):=λx hx=>h x (AWJ hx)
theorem AI2 {l:List Int} (h:Hs l) (n:Nat):Hs (l.drop n):=λx hx=>h x (AWK hx)
theorem ACy {l:List Int} (h:Hs l):Ws l:=λx hx=>⟨(h x hx).1,by have:=(h x hx).2;omega⟩
theorem ZJ {l:List Int} (h:Hs l) (i:Int):0<=rd l i/\rd l i<4294967296:=by
 unfold rd;rw[AUF];rcases AUq i.toNat l.length with hi | hi
 · rw[AUT hi];exact h _ (AWS hi)
 · rw[AUm hi];simp
theorem AA3 (a b:List Int):hv (a++b)=hv a+Hp a.length*hv b:=by
 induction a with
 | nil=>simp[hv,AI1]
 | cons x a ih=>rw[AWR,AUu,KH,K9,K9,ih];grind
theorem ALc (x:Int):hv [x]=x:=by rw[K9];show x+4294967296*0=x;omega
theorem tC (a:List Int) (x:Int):hv (a++ [x])=hv a+Hp a.length*x:=by rw[AA3,ALc]
theorem Vi {l:List Int} (h:Hs l):0<=hv l:=by
 induction l with
 | nil=>exact AW6 0
 | cons x l ih =>
   have h1:=iH.1 h;have h2:=ih h1.2;rw[K9];omega
theorem AHI {l:List Int} (h:Hs l):hv l<Hp l.length:=by
 induction l with
 | nil=>decide
 | cons x l ih =>
   have h1:=iH.1 h;have h2:=ih h1.2;rw[AUu,KH,K9];omega
theorem GQ (l:List Int) (i:Nat):hv (l.take (i+1))=hv (l.take i)+Hp i*rd l (i:Int):=by
 rcases AUq i l.length with h | h
 · rw[JY h,tC,AUJ,AUa (by omega)]
 · rw[ke h,KF h,AVN,AVM]
theorem kf {l:List Int} (h:Hs l) (i:Nat):hv (l.take i)<Hp i:=by
 have h1:=AHI (ACx h i);have h2:=AP1 (List.length_take_le i l);omega
theorem AHJ (l:List Int) (i:Nat):hv l=hv (l.take i)+Hp (min i l.length)*hv (l.drop i):=by
 have:=AA3 (l.take i) (l.drop i);rw[AVi,AUJ] at this;exact this
theorem AA4 {r:List Int} (h:Ws r) (h0:nv r=0):hv r=0:=by
 induction r with
 | nil=>rfl
 | cons x r ih =>
   have h1:=Ht.1 h;have h2:=AS h1.2;unfold U at h1;rw[Ck] at h0;have:=ih h1.2 (by omega);rw[K9,this];omega
def hl:List Int->List Int
 | []=> []
 | x::l=>x%4294967296::x/4294967296::hl l
theorem AKB {l:List Int} (h:Ws l):Hs (hl l):=by
 induction l with
 | nil=>exact AA2
 | cons x l ih =>
   have h1:=Ht.1 h;unfold U at h1;exact iH.2 ⟨by omega,iH.2 ⟨by omega,ih h1.2⟩⟩
theorem AP3 (l:List Int):hv (hl l)=nv l:=by
 induction l with
 | nil=>rfl
 | cons x l ih=>show hv (x%4294967296::x/4294967296::hl l)=_;rw[K9,K9,ih,Ck];omega
theorem AA5 (l:List Int):(hl l).length=2*l.length:=by
 induction l with
 | nil=>rfl
 | cons x l ih=>show(x%4294967296::x/4294967296::hl l).length=_;simp[ih];omega
theorem ALd (a b:List Int):hl (a++b)=hl a++hl b:=by
 induction a with
 | nil=>rfl
 | cons x a ih=>show x%4294967296::x/4294967296::hl (a++b)=_;rw[ih];rfl
def hh (l:List Int):List Int:=dg (nv (hl l))
theorem Vj {l:List Int} (h:Ws l):Hs (hh l)/\hv (hh l)=nv l/\(hh l).length<=2*l.length:=by
 have h1:=AKB h;obtain⟨r,hr,hz⟩:=bU (ACy h1);have h2:Hs (dg (nv (hl l))++r):=hr▸h1;have h3:=AHH.1 h2;refine⟨h3.1, ?_, ?_⟩
 · have h4:=AA3 (dg (nv (hl l))) r
   rw[<-hr,AP3,AA4 (ACy h3.2) hz,AVN,AVM] at h4;exact h4.symm
 · have:=GO (ACy h1)
   rw[AA5] at this;exact this
theorem kg {a:List Int} (ha:Wl a) (hla:a.length<=400000000) (d:Nat) : ∀i:Nat,i+d=a.length->Ev (λk=>Bn.l0 k a (hl (a.take i)) (a.length:Int) i) (hh a):=by
 induction d with
 | zero =>
   intro i hi;refine Ev.step (λk=>Bn.l0.eq_2 ..) ?_;refine Ev.AM (by omega) ?_;rw[AUS (by omega)];exact Ev.bind (B7 ⟨ACy (AKB ha.1),by rw[AA5];omega⟩) (Ev.same rfl)
 | succ d ih =>
   intro i hi;have hx:=I5 ha.1 (i:Int);have e:wrap64 ((i:Int)+1)=((i+1:Nat):Int):=(by rw[AG (by omega) (by omega)];omega);have hlen:(hl (a.take i)).length=2*i:=(by rw[AA5,AUJ];omega);refine Ev.step (λk=>Bn.l0.eq_2 ..) ?_;refine Ev.AK (by omega) (Ev.AK (by omega) (Ev.AK (by omega) (Ev.AK (by omega) ?_)));refine Ev.AP rfl (Ev.AK (by rw[AUR,hlen];simp;omega) ?_);unfold U at hx;rw[e,Wc _ hx.1 hx.2];have e2:hl (a.take i)++ [rd a (i:Int)%4294967296]++ [rd a (i:Int)/4294967296]=hl (a.take (i+1)):=by
    rw[JY (by omega),ALd,AVQ];rfl
   rw[e2];exact ih (i+1) (by omega)
theorem G7 {a:List Int} (ha:Wl a) (hla:a.length<=400000000):Ev (λk=>Bn.f k a) (hh a):=kg ha hla a.length 0 (by omega)
theorem nW {h:List Int} (hh:Hs h) (hl:h.length<=1000000000) (d:Nat) : ∀(j:Nat) (out:List Int),2*j+d>=h.length->out.length=j->Ws out->j<=600000000->nv out=hv (h.take (2*j))->Ev (λk=>CD.l0 k h out ((2*j:Nat):Int)) (dg (hv h)):=by
 induction d with
 | zero =>
   intro j out hj hlo Ql hj2 he;refine Ev.step (λk=>CD.l0.eq_2 ..) ?_;refine Ev.AM (by omega) ?_;rw[AUS (by omega)] at he;rw[<-he];exact Ev.bind (B7 ⟨Ql,by omega⟩) (Ev.same rfl)
 | succ d ih =>
   intro j out hj hlo Ql hj2 he;refine Ev.step (λk=>CD.l0.eq_2 ..) ?_;by_cases hend:((2*j:Nat):Int)<(h.length:Int)
   · have x0:=ZJ hh ((2*j:Nat):Int)
     have y0:=ZJ hh ((2*j+1:Nat):Int);have e1:wrap64 (((2*j:Nat):Int)+1)=((2*j+1:Nat):Int):=(by rw[AG (by omega) (by omega)];omega);have e2:wrap64 (((2*j:Nat):Int)+2)=((2*(j+1):Nat):Int):=(by rw[AG (by omega) (by omega)];omega);have step : ∀w:Int,w=rd h ((2*j:Nat):Int)+4294967296*rd h ((2*j+1:Nat):Int)->Ev (λk=>CD.l0 k h (out++ [w]) ((2*(j+1):Nat):Int)) (dg (hv h)):=by
      intro w hw;refine ih (j+1) _ (by omega) (by rw[AUR,hlo];rfl) (MB Ql (by unfold U;omega)) (by omega) ?_;rw[JX,hlo,he,show 2*(j+1)=2*j+1+1 by omega,GQ,GQ,KH,AP2,hw]
      grind
     refine Ev.AK hend (Ev.AK (by omega) ?_);rw[e1,e2];by_cases hn:((2*j+1:Nat):Int)<(h.length:Int)
     · refine Ev.AK hn (Ev.AK (by omega) (Ev.AK (by omega) (step _ ?_)))
       rw[DC (by omega) (by omega),or_comm _ _ (by omega) (by omega) (by omega) (by omega),Fx 32 _ _ (by omega) (by omega) (by omega) (by omega) (by omega) (by omega)];omega
     · refine Ev.AM hn (Ev.AK (by omega) (step _ ?_))
       rw[ke (i:=2*j+1) (by omega)];omega
   · refine Ev.AM hend ?_
     rw[AUS (by omega)] at he;rw[<-he];exact Ev.bind (B7 ⟨Ql,by omega⟩) (Ev.same rfl)
theorem Pp {h:List Int} (hh:Hs h) (hl:h.length<=1000000000):Ev (λk=>CD.f k h) (dg (hv h)):=nW hh hl h.length 0 [] (by omega) rfl Jr (by omega) rfl
theorem xk {x y:List Int} (hx:Hs x) (hy:Hs y) {n:Nat} (hn:n<=900000000) (hxn:x.length<n) (hyn:y.length<n) (d:Nat) : ∀(i:Nat) (out:List Int) (c:Int),i+d=n->out.length=i->Hs out->0<=c->c<=1->hv out+Hp i*c=hv (x.take i)+hv (y.take i)->Ev (λk=>Cz.l0 k x y out c (n:Int) i) (dg (hv x+hv y)):=by
 induction d with
 | zero =>
   intro i out c hi hlo Ql h0 h1 he;refine Ev.step (λk=>Cz.l0.eq_2 ..) ?_;refine Ev.AM (by omega) ?_;obtain⟨m,rfl⟩ : ∃m,i=m+1:=⟨i-1,by omega⟩;have b1:=kf hx m;have b2:=kf hy m;have b3:=Vi Ql;have hp:=AA1 m;rw[AUS (by omega)] at b1 b2;rw[AUS (by omega),AUS (by omega),KH] at he;have hc:c=0:=by
    rcases(show c=0\/c=1 by omega) with h | h
    · exact h
    · subst h;omega
   subst hc;rw[<-he,AVN,AVM];exact Ev.bind (Pp Ql (by omega)) (Ev.same rfl)
 | succ d ih =>
   intro i out c hi hlo Ql h0 h1 he;have HE:=Hd.mk he;clear he;have x0:=ZJ hx (i:Int);have y0:=ZJ hy (i:Int);have e:wrap64 ((i:Int)+1)=((i+1:Nat):Int):=(by rw[AG (by omega) (by omega)];omega);refine Ev.step (λk=>Cz.l0.eq_2 ..) ?_;refine Ev.AK (by omega) (Ev.AP (OA x i) (Ev.AP (OA y i) (Ev.AK (by omega) ?_)));rw[e,DC (n:=c+rd x (i:Int)) (by omega) (by omega),DC (by omega) (by omega),Wc _ (by omega) (by omega)];refine ih (i+1) _ _ (by omega) (by rw[AUR,hlo];rfl) (ACw Ql (by omega) (by omega)) (by omega) (by omega) ?_;have he:=HE.out;rw[tC,hlo,GQ,GQ,KH];have hs:c+rd x (i:Int)+rd y (i:Int)=4294967296*((c+rd x (i:Int)+rd y (i:Int))/4294967296)+(c+rd x (i:Int)+rd y (i:Int))%4294967296:=(by omega);generalize (c+rd x (i:Int)+rd y (i:Int))/4294967296=q at *;generalize (c+rd x (i:Int)+rd y (i:Int))%4294967296=r at *;have hc:c=4294967296*q+r-rd x (i:Int)-rd y (i:Int):=(by omega);rw[hc] at he
   grind
theorem Ot {a b:List Int} (ha:Wl a) (hb:Wl b) (hla:a.length<=400000000) (hlb:b.length<=400000000):Ev (λk=>Cz.f k a b) (dg (nv a+nv b)):=by
 obtain⟨a1,a2,a3⟩:=Vj ha.1;obtain⟨b1,b2,b3⟩:=Vj hb.1;refine Ev.bind (G7 ha hla) (Ev.bind (G7 hb hlb) ?_);have hm:wrap64 (mx ((hh a).length:Int) ((hh b).length:Int)+1)=((max (hh a).length (hh b).length+1:Nat):Int):=by
  unfold mx;rw[AG (by split<;>omega) (by split<;>omega)];split<;>omega
 rw[hm,<-a2,<-b2];exact xk a1 b1 (n:=max (hh a).length (hh b).length+1) (by omega) (by omega) (by omega) (max (hh a).length (hh b).length+1) 0 [] 0 (by omega) rfl AA2 (by omega) (by omega) rfl
theorem xl {x y:List Int} (hx:Hs x) (hy:Hs y) (hge:hv y<=hv x) (hn:x.length<=900000000) (d:Nat) : ∀(i:Nat) (out:List Int) (c:Int),i+d=x.length->out.length=i->Hs out->0<=c->c<=1->hv out-Hp i*c=hv (x.take i)-hv (y.take i)->Ev (λk=>CB.l0 k x y out c (x.length:Int) i) (dg (hv x-hv y)):=by
 induction d with
 | zero =>
   intro i out c hi hlo Ql h0 h1 he;refine Ev.step (λk=>CB.l0.eq_2 ..) ?_;refine Ev.AM (by omega) ?_;have hi2:i=x.length:=(by omega);subst hi2;rw[AVP] at he;have uN:=AHJ y x.length;have hn1:=Vi Ql;have hn2:=AHI Ql;rw[hlo] at hn2;have hn3:=Vi (ACx hy x.length);have hn4:=Vi (AI2 hy x.length);have hn5:=AHI hx;have hp:=AA1 x.length;have hz:Hp (min x.length y.length)*hv (y.drop x.length)=0:=by
    rcases AUq x.length y.length with hlt | hgt
    · rw[AUa (by omega)] at uN ⊢
      rcases(show hv (y.drop x.length)=0\/1<=hv (y.drop x.length) by omega) with h | h
      · rw[h,AVN]
      · have:=AUb h (AUE hp)
        omega
    · rw[AUi hgt];simp[hv]
   have hu:c=0:=by
    rcases(show c=0\/c=1 by omega) with h | h
    · exact h
    · subst h;omega
   subst hu;have e:hv x-hv y=hv out:=(by omega);rw[e];exact Ev.bind (Pp Ql (by omega)) (Ev.same rfl)
 | succ d ih =>
   intro i out c hi hlo Ql h0 h1 he;have HE:=Hd.mk he;clear he;have x0:=ZJ hx (i:Int);have y0:=ZJ hy (i:Int);have e:wrap64 ((i:Int)+1)=((i+1:Nat):Int):=(by rw[AG (by omega) (by omega)];omega);refine Ev.step (λk=>CB.l0.eq_2 ..) ?_;refine Ev.AK (by omega) (Ev.AK (by omega) (Ev.AK (by omega) (Ev.AP (OA y i) (Ev.AK (by omega) ?_))));have hw:IntKind.u64.wrap (IntKind.u64.wrap (IntKind.u64.wrap (4294967296+rd x (i:Int))-rd y (i:Int))-c)=4294967296+rd x (i:Int)-rd y (i:Int)-c:=by
    rw[wu,wu,wu];omega
   rw[e,hw,Wc _ (by omega) (by omega),DC (n:=1-(4294967296+rd x (i:Int)-rd y (i:Int)-c)/4294967296) (by omega) (by omega)];refine ih (i+1) _ _ (by omega) (by rw[AUR,hlo];rfl) (ACw Ql (by omega) (by omega)) (by omega) (by omega) ?_;have he:=HE.out;rw[tC,hlo,GQ,GQ,KH];have hs:4294967296+rd x (i:Int)-rd y (i:Int)-c=4294967296*((4294967296+rd x (i:Int)-rd y (i:Int)-c)/4294967296)+(4294967296+rd x (i:Int)-rd y (i:Int)-c)%4294967296:=(by omega);generalize (4294967296+rd x (i:Int)-rd y (i:Int)-c)/4294967296=q at *;generalize (4294967296+rd x (i:Int)-rd y (i:Int)-c)%4294967296=r at *;have hc:c=4294967296+rd x (i:Int)-rd y (i:Int)-4294967296*q-r:=(by omega);rw[hc] at he
   grind
theorem HJ {a b:List Int} (ha:Wl a) (hb:Wl b) (hla:a.length<=400000000) (hlb:b.length<=400000000) (hge:nv b<=nv a):Ev (λk=>CB.f k a b) (dg (nv a-nv b)):=by
 obtain⟨a1,a2,a3⟩:=Vj ha.1;obtain⟨b1,b2,b3⟩:=Vj hb.1;refine Ev.bind (G7 ha hla) (Ev.bind (G7 hb hlb) ?_);rw[<-a2,<-b2];exact xl a1 b1 (by omega) (by omega) (hh a).length 0 [] 0 (by omega) rfl AA2 (by omega) (by omega) rfl
theorem xm {a b:List Int} {i:Nat} (h:i<a.length):rd (a++b) (i:Int)=rd a (i:Int):=by
 unfold rd;rw[AUF,AUF,AUD,AVA h]
theorem ZK {a b:List Int} {i:Nat} (h:a.length<=i):rd (a++b) (i:Int)=rd b ((i-a.length:Nat):Int):=by
 unfold rd;rw[AUF,AUF,AUD,AUD,AVH h]
theorem kj (a:List Int) (x:Int) (b:List Int):rd (a++x::b) (a.length:Int)=x:=by
 rw[ZK (AUN _),AXC];rfl
theorem AI3 (a:List Int) (x y:Int) (b:List Int):rd (a++x::y::b) ((a.length+1:Nat):Int)=y:=by
 rw[ZK (by omega),Nat.add_sub_cancel_left];rfl
theorem ZL (a:List Int) (x y:Int) (b:List Int):(a++x::b).set a.length y=a++y::b:=by
 rw[AXW _ _ (AUN _),AXC];rfl
theorem AI4 {l:List Int} {i n:Nat} (h:i<n):rd (l.take n) (i:Int)=rd l (i:Int):=by
 unfold rd;rw[AUF,AUF,AUD,AWX h]
theorem tD {o:List Int} (ho:Wl o) (hl:o.length<=999999999) {s:Nat} (hs:s<=63) (hs0:1<=s) (i:Nat) : ∀T:List Int,i<o.length->T.length=o.length-(i+1)->Ws T->nv (o.take (i+1))*2^s+Wp (i+1)*(nv T-rd o (i:Int)/2^(64-s))=nv o*2^s ->
 Ev (λk=>Ac.l2 k (o.take (i+1)++T) (s:Int) (i:Int)) (dg (nv o*2^s)):=by
 have hp:=pow_pos s;have e64:(64-(s:Int)).toNat=64-s:=by omega
 induction i with
 | zero =>
   intro T hi hT hwT he;have hx:=I5 ho.1 ((0:Nat):Int);obtain⟨w1,w2,w3,w4,w5⟩:=kY hx hs (c:=0) (by omega) hp;have e0:o.take (0+1)++T= []++rd o ((0:Nat):Int)::T:=(by rw[JY hi];rfl);refine Ev.step (λk=>Ac.l2.eq_2 ..) ?_;refine Ev.AM (by omega) (Ev.AK (by rw[e0];simp) ?_);rw[AUD,e0];have er:rd ([]++rd o ((0:Nat):Int)::T) 0=rd o ((0:Nat):Int):=kj [] _ T;have es : ∀v,([]++rd o ((0:Nat):Int)::T).set (0:Int).toNat v=v::T:=λv=>rfl
   rw[er,es,wu];rw[JY hi,JX] at he;simp only[AWP,AWb,Oy,Dl,nv,AWY,AVd,AUk] at he;rw[AVM] at w5;have hv:nv (rd o ((0:Nat):Int)*2^s%18446744073709551616::T)=nv o*2^s:=by
    rw[Ck];omega
   rw[<-hv];exact Ev.bind (B7 ⟨Ht.2 ⟨w5,hwT⟩,by simp;omega⟩) (Ev.same rfl)
 | succ i ih =>
   intro T hi hT hwT he;have hx:=I5 ho.1 ((i+1:Nat):Int);have hy:=I5 ho.1 (i:Int);have q0:0<=rd o (i:Int)/2^(64-s):=AUX hy.1 (AUE (pow_pos _));have q1:rd o (i:Int)/2^(64-s)<2^s:=by
    rw[AUg (pow_pos _),AUQ,iG (by omega)];exact hy.2
   obtain⟨w1,w2,w3,w4,w5⟩:=kY hx hs q0 q1;have HE:=Hd.mk he;have W2:=Hd.mk w2;clear he w2 w3 w4;have ll:(o.take (i+1)).length=i+1:=(by rw[AUJ];omega);have e1:o.take (i+1+1)++T=o.take (i+1)++rd o ((i+1:Nat):Int)::T:=(by rw[JY hi,AVQ];rfl);have e2:rd (o.take (i+1)++rd o ((i+1:Nat):Int)::T) ((i+1:Nat):Int)=rd o ((i+1:Nat):Int):=by
    have:=kj (o.take (i+1)) (rd o ((i+1:Nat):Int)) T
    rwa [ll] at this
   have e3:rd (o.take (i+1)++rd o ((i+1:Nat):Int)::T) (i:Int)=rd o (i:Int):=by
    rw[xm (by omega),AI4 (by omega)]
   have e4 : ∀v,(o.take (i+1)++rd o ((i+1:Nat):Int)::T).set ((i+1:Nat):Int).toNat v=o.take (i+1)++v::T:=by
    intro v;have:=ZL (o.take (i+1)) (rd o ((i+1:Nat):Int)) v T
    rwa [ll] at this
   have e5:wrap64 (((i+1:Nat):Int)-1)=(i:Int):=(by rw[AG (by omega) (by omega)];omega);have e6:(o.take (i+1)++rd o ((i+1:Nat):Int)::T).length=o.length:=(by rw[AUR,AUu,ll,hT];omega);rw[e1];refine Ev.step (λk=>Ac.l2.eq_2 ..) ?_;refine Ev.AK (by omega) (Ev.AK (by omega) (Ev.AK (by rw[e6];omega) ?_));rw[e5];refine Ev.AK (by omega) (Ev.AK (by rw[e6];omega) ?_);rw[e2,e3,e4,e64,AUD,w1];refine ih _ (by omega) (by rw[AUu,hT];omega) (Ht.2 ⟨w5,hwT⟩) ?_;rw[<-HE.out,Ck,B4 hi,Dl (i+1)];have w2:=W2.out;generalize rd o ((i+1:Nat):Int)*2^s%18446744073709551616=r at *;generalize rd o ((i+1:Nat):Int)/2^(64-s)=q at *;generalize rd o (i:Int)/2^(64-s)=p at *;rw[AVt,AUl,w2]
   grind
theorem tE {a:List Int} (ha:Wl a) (hla:a.length<=900000000) {n m s:Nat} (hn:n=64*m+s) (hs:s<=63) (hm:m<=1024) (d:Nat) : ∀i:Nat,i+d=a.length->Ev (λk=>Ac.l1 k a (n:Int) (List.replicate m 0++a.take i) (a.length:Int) i) (dg (nv a*2^n)):=by
 induction d with
 | zero =>
   intro i hi;have hw:Wl (List.replicate m 0++a):=⟨bS.2 ⟨ZF _,ha.1⟩,by simp;omega⟩;have hv:nv (List.replicate m 0++a)=Wp m*nv a:=(by rw[kW,UC];simp);refine Ev.step (λk=>Ac.l1.eq_2 ..) ?_;refine Ev.AM (by omega) ?_;rw[AUS (by omega)];by_cases h0:s=0
   · refine Ev.AK (by omega) ?_
     have:nv a*2^n=nv (List.replicate m 0++a):=(by rw[hv,hn,h0,AXA,<-Hr,AUQ]);rw[this];exact Ev.bind (B7 hw) (Ev.same rfl)
   · have es:(n:Int)%64=(s:Int):=by omega
     rw[es];refine Ev.AM (by omega) (Ev.AK (by simp;omega) ?_);refine Ev.AP rfl ?_;have hlen:(List.replicate m 0++a++ [0]).length=m+a.length+1:=(by simp;omega);have ew:wrap64 (((List.replicate m 0++a++ [(0:Int)]).length:Int)-1)=((m+a.length:Nat):Int):=(by rw[hlen,AG (by omega) (by omega)];omega);rw[ew];have Ql:Wl (List.replicate m 0++a++ [0]):=⟨MB hw.1 (by unfold U;omega),by rw[hlen];omega⟩;have hvo:nv (List.replicate m 0++a++ [0])=Wp m*nv a:=(by rw[JX,hv];omega);have h:=tD Ql (by rw[hlen];omega) hs (by omega) (m+a.length) [] (by rw[hlen];omega) (by rw[hlen];simp) Jr (by
      have hr:rd (List.replicate m 0++a++ [(0:Int)]) ((m+a.length:Nat):Int)=0:=by
       have:=kj (List.replicate m 0++a) (0:Int) []
       rwa [show(List.replicate m (0:Int)++a).length=m+a.length by simp] at this
      rw[hr,AUS (by rw[hlen];omega)];simp[nv])
     rw[AVW,AUS (by rw[hlen];omega)] at h;refine h.WS ?_;rw[hvo,hn,AUZ,<-Hr]
     congr 1
     grind
 | succ d ih =>
   intro i hi;have e:wrap64 ((i:Int)+1)=((i+1:Nat):Int):=(by rw[AG (by omega) (by omega)];omega);refine Ev.step (λk=>Ac.l1.eq_2 ..) ?_;refine Ev.AK (by omega) (Ev.AK (by omega) (Ev.AK (by omega) (Ev.AK (by simp;omega) ?_)));rw[e,AVQ,<-JY (by omega)];exact ih (i+1) (by omega)
theorem tF {a:List Int} (ha:Wl a) (hla:a.length<=900000000) {n m s:Nat} (hn:n=64*m+s) (hs:s<=63) (hm:m<=1024) (d:Nat) : ∀i:Nat,i+d=m->Ev (λk=>Ac.l0 k a (n:Int) (List.replicate i 0) (m:Int) i) (dg (nv a*2^n)):=by
 induction d with
 | zero =>
   intro i hi;obtain rfl:i=m:=by omega
   refine Ev.step (λk=>Ac.l0.eq_2 ..) ?_;refine Ev.AM (by omega) ?_;have h:=tE ha hla hn hs hm a.length 0 (by omega)
   rwa [AWP,AVW] at h
 | succ d ih =>
   intro i hi;have e:wrap64 ((i:Int)+1)=((i+1:Nat):Int):=(by rw[AG (by omega) (by omega)];omega);refine Ev.step (λk=>Ac.l0.eq_2 ..) ?_;refine Ev.AK (by omega) (Ev.AK (by simp;omega) ?_);rw[e,<-AWx];exact ih (i+1) (by omega)
theorem C3 {a:List Int} (ha:Wl a) (hla:a.length<=900000000) (n:Int):Ev (λk=>Ac.f k a n) (dg (nv a*2^w7 n)):=by
 have hs:=AHD n;obtain⟨b,m,hb,hm,hbm⟩ : ∃b m:Nat,b<=63/\m<=1024/\w7 n=64*m+b:=⟨w7 n%64,w7 n/64,by omega,by omega,by omega⟩;unfold Ac.f;rw[AAy,show(w7 n:Int)/64=(m:Int) by omega];exact tF ha hla hbm hb hm m 0 (by omega)
theorem tG {o:List Int} (ho:Wl o) {s:Nat} (hs:s<=63) (d:Nat) : ∀(i:Nat) (R:List Int),i+d=o.length->R.length=i->Ws R->nv R+Wp i*(nv (o.drop i)/2^s)=nv o/2^s ->
 Ev (λk=>BG.l1 k (R++o.drop i) (s:Int) (o.length:Int) i) (dg (nv o/2^s)):=by
 have hol:=ho.2;have e64:(64-(s:Int)).toNat=64-s:=by omega
 induction d with
 | zero =>
   intro i R hi hR hwR he;refine Ev.step (λk=>BG.l1.eq_2 ..) ?_;refine Ev.AM (by omega) ?_;rw[AUi (by omega)] at he ⊢;simp[nv] at he;rw[<-he,AVW];exact Ev.bind (B7 ⟨hwR,by omega⟩) (Ev.same rfl)
 | succ d ih =>
   intro i R hi hR hwR he;have hx:=I5 ho.1 (i:Int);have hz:=I5 ho.1 ((i+1:Nat):Int);rw[KG (show i<o.length by omega)] at he ⊢;rw[Ck] at he;have HE:=Hd.mk he;clear he;have e:wrap64 ((i:Int)+1)=((i+1:Nat):Int):=(by rw[AG (by omega) (by omega)];omega);have r1:rd (R++rd o (i:Int)::o.drop (i+1)) (i:Int)=rd o (i:Int):=(by rw[<-hR];exact kj ..);have s1 : ∀v:Int,(R++rd o (i:Int)::o.drop (i+1)).set (i:Int).toNat v=R++v::o.drop (i+1):=λv=>by
    rw[AUD,<-hR];exact ZL ..
   have r2 : ∀v:Int,rd (R++v::o.drop (i+1)) (i:Int)=v:=λv=>by rw[<-hR];exact kj ..
   have s2 : ∀v u:Int,(R++v::o.drop (i+1)).set (i:Int).toNat u=R++u::o.drop (i+1):=λv u=>by
    rw[AUD,<-hR];exact ZL ..
   have l1 : ∀v:Int,(R++v::o.drop (i+1)).length=o.length:=λv=>by simp[hR];omega
   refine Ev.step (λk=>BG.l1.eq_2 ..) ?_;refine Ev.AK (by omega) (Ev.AK (by omega) (Ev.AK (by rw[l1];omega) ?_));rw[r1,s1,e,AUD,e64];refine Ev.AP rfl ?_;have next : ∀w:Int,U w->(rd o (i:Int)+18446744073709551616*nv (o.drop (i+1)))/2^s=w+18446744073709551616*(nv (o.drop (i+1))/2^s)->Ev (λk=>BG.l1 k (R++w::o.drop (i+1)) (s:Int) (o.length:Int) ((i+1:Nat):Int)) (dg (nv o/2^s)):=by
    intro w hw hq;have h:=ih (i+1) (R++ [w]) (by omega) (by rw[AUR,hR];rfl) (MB hwR hw) (by
     have he:=HE.out;rw[hq] at he;rw[JX,hR,Dl,<-he]
     grind)
    rwa [AVQ] at h
   by_cases hn:((i+1:Nat):Int)<(o.length:Int)
   · obtain⟨w1,w2,w3⟩:=kZ (T:=nv (o.drop (i+1))) hx hz hs ⟨nv (o.drop (i+1+1)),by rw[KG (show i+1<o.length by omega),Ck]⟩
     have r3 : ∀v:Int,rd (R++v::o.drop (i+1)) ((i+1:Nat):Int)=rd o ((i+1:Nat):Int):=λv=>by
      rw[KG (show i+1<o.length by omega),<-hR];exact AI3 ..
     refine Ev.AK (by rw[l1];exact hn) (Ev.AK (by omega) ?_);rw[r2,r3,s2];have hw:IntKind.u64.wrap (IntKind.u64.wrap (rd o ((i+1:Nat):Int)*2)*2^(63-s))=IntKind.u64.wrap (rd o ((i+1:Nat):Int)*2^(64-s)):=by
      rw[wu,wu,wu,mul_mod_left,AUl,show(2:Int)*2^(63-s)=2^(64-s) by rw[show 64-s=(63-s)+1 by omega,AUY,AUQ]]
     rw[hw] at w1;rw[w1];exact next _ w2 w3
   · obtain⟨w1,w2,w3⟩:=pH (T:=nv (o.drop (i+1))) hx hs (by rw[AUi (by omega)];rfl)
     refine Ev.AM (by rw[l1];exact hn) ?_;exact next _ w2 w3
theorem tH {a:List Int} (ha:Wl a) {n m s:Nat} (hn:n=64*m+s) (hs:s<=63) (d:Nat) : ∀i:Nat,i+d=a.length->m<=i->Ev (λk=>BG.l0 k a (n:Int) ((a.drop m).take (i-m)) i) (dg (nv a/2^n)):=by
 have hal:=ha.2;have hdiv:nv a/2^n=nv (a.drop m)/2^s:=by
  have hp:=Ft m;rw[hn,AUZ,<-Hr,<-AUt (by omega),QT ha.1]
 induction d with
 | zero =>
   intro i hi hmi;have hw:Wl (a.drop m):=⟨Oz ha.1 m,by simp;omega⟩;refine Ev.step (λk=>BG.l0.eq_2 ..) ?_;refine Ev.AM (by omega) ?_;rw[AUS (by simp;omega),show(n:Int)%64=(s:Int) by omega,hdiv];by_cases h0:s=0
   · refine Ev.AK (by omega) ?_
     rw[h0,AUW,AU9];exact Ev.bind (B7 hw) (Ev.same rfl)
   · refine Ev.AM (by omega) ?_
     exact tG hw hs (a.drop m).length 0 [] (by omega) rfl Jr (by simp[nv,Oy])
 | succ d ih =>
   intro i hi hmi;have e:wrap64 ((i:Int)+1)=((i+1:Nat):Int):=(by rw[AG (by omega) (by omega)];omega);have e2:(a.drop m).take (i-m)++ [rd a (i:Int)]=(a.drop m).take (i+1-m):=by
    have h1:=JY (l:=a.drop m) (i:=i-m) (by simp;omega);have h2:rd (a.drop m) ((i-m:Nat):Int)=rd a (i:Int):=by
     unfold rd;rw[AUF,AUF,AUD,AUD,AUh,show m+(i-m)=i by omega]
    rw[h2] at h1;rw[dH hmi,h1]
   refine Ev.step (λk=>BG.l0.eq_2 ..) ?_;refine Ev.AK (by omega) (Ev.AK (by omega) (Ev.AK (by simp;omega) ?_));rw[e,e2];exact ih (i+1) (by omega) (by omega)
theorem Ka {a:List Int} (ha:Wl a) {n:Int} (hn:n<=9223372036854775807):Ev (λk=>BG.f k a n) (dg (nv a/2^n.toNat)):=by
 have hal:=ha.2;have hmx:mx n 0=(n.toNat:Int):=by unfold mx;split<;>omega
 obtain⟨b,m,hb,hbm⟩ : ∃b m:Nat,b<=63/\n.toNat=64*m+b:=⟨n.toNat%64,n.toNat/64,by omega,by omega⟩;have e1:wrap64 ((n.toNat:Int)/64)=(m:Int):=by rw[AG (by omega) (by omega)];omega
 unfold BG.f;rw[hmx,e1];rcases AUq m a.length with h | h
 · have:=tH ha hbm hb (a.length-m) m (by omega) (AUN _)
   rwa [AXC,AWP] at this
 · have hz:nv a/2^n.toNat=0:=by
    have h1:=MS ha.1;have h2:=kV h;rw[hbm,AUZ,<-Hr];have h3:=pow_pos b;have h4:=AUb (show 1<=(2:Int)^b by omega) (AUE (Ft m));exact AUo (AS ha.1) (by omega)
   rw[hz];refine Ev.step (λk=>BG.l0.eq_2 ..) ?_;refine Ev.AM (by omega) ?_;by_cases h0:(n.toNat:Int)%64=0
   · exact Ev.AK h0 (Ev.bind (B7 ⟨Jr,by simp⟩) (Ev.same rfl))
   · refine Ev.AM h0 (Ev.step (λk=>BG.l1.eq_2 ..) (Ev.AM (by simp) ?_))
     exact Ev.bind (B7 ⟨Jr,by simp⟩) (Ev.same rfl)
theorem Xf : ∀(l:List Int) (p:Nat) (v:Int),p<l.length->nv (l.set p v)=nv l+Wp p*(v-rd l (p:Int))
 | [],p,v,h=>by simp at h
 | x::t,0,v,h=>by
   show v+18446744073709551616*nv t=x+18446744073709551616*nv t+1*(v-x);omega
 | x::t,p+1,v,h=>by
   have ih:=Xf t p v (by simpa using h);have e:rd (x::t) ((p+1:Nat):Int)=rd t (p:Int):=(by unfold rd;simp);rw[AVy,Ck,Ck,ih,e,Dl,AVp,AUl,Int.add_assoc]
theorem bV {l:List Int} (h:Ws l) (p:Nat) {v:Int} (hv:U v):Ws (l.set p v):=λx hx=>by
 rcases AXJ hx with h1 | h1
 · exact h x h1
 · rw[h1];exact hv
theorem Kb {l:List Int} {p q:Nat} {v:Int} (h:p≠q):rd (l.set p v) (q:Int)=rd l (q:Int):=by
 unfold rd;rw[AUF,AUF,AUD,AUc h]
theorem xp (n i:Nat):rd (List.replicate n 0) (i:Int)=0:=by
 unfold rd;rw[AUF,AUD,AVU];split<;>rfl
theorem xq {B x y s c hi lo v ov:Int} (hB:0<B) (hx0:0<=x) (hx:x<B) (hy0:0<=y) (hy:y<B) (hs0:0<=s) (hs:s<B) (hc0:0<=c) (hc:c<B)
 (e1:x*y=B*hi+lo) (e2:s+lo+c=B*ov+v) (hl0:0<=lo) (hv0:0<=v):hi+ov<B:=by
 have h1:x*y<=(B-1)*(B-1):=AWl (by omega) (by omega) hy0 (by omega);have h2:(B-1)*(B-1)=B*B-2*B+1:=by grind
 have h3:B*(hi+ov)<B*B:=by
  have:B*(hi+ov)=B*hi+B*ov:=AVp ..;omega
 exact Int.lt_of_mul_lt_mul_left h3 (AUE hB)
theorem tI {a b:List Int} (ha:Wl a) (hb:Wl b) (hab:a.length+b.length<=1000000000) {i:Nat} (hi:i<a.length) {N:Int}
 (next : ∀z:List Int,z.length=a.length+b.length->Ws z->nv z=nv (a.take (i+1))*nv b->(∀p:Nat,i+1+b.length<=p->rd z (p:Int)=0)->Ev (λk=>Bz.l0 k b z a (a.length:Int) ((i+1:Nat):Int)) (dg N))
 (d:Nat) : ∀(j:Nat) (z:List Int) (c:Int),j+d=b.length->z.length=a.length+b.length->Ws z->U c->nv z+Wp (i+j)*c=nv (a.take i)*nv b+Wp i*(rd a (i:Int)*nv (b.take j))->(∀p:Nat,i+b.length<=p->rd z (p:Int)=0) ->
 Ev (λk=>Bz.l1 k b z (i:Int) (rd a (i:Int)) c a (a.length:Int) (i:Int) b (b.length:Int) j) (dg N):=by
 have hx:=I5 ha.1 (i:Int);induction d with
 | zero =>
   intro j z c hj hz xu hc he h0;have HE:=Hd.mk he;clear he;have e:wrap64 ((i:Int)+(b.length:Int))=((i+b.length:Nat):Int):=(by rw[AG (by omega) (by omega)];omega);have e2:wrap64 ((i:Int)+1)=((i+1:Nat):Int):=(by rw[AG (by omega) (by omega)];omega);refine Ev.step (λk=>Bz.l1.eq_2 ..) ?_;rw[e,e2];refine Ev.AM (by omega) (Ev.AK (by omega) (Ev.AK (by omega) ?_));rw[AUD];refine next _ (by simp;omega) (bV xu _ hc) ?_ ?_
   · rw[Xf _ _ _ (by omega),h0 _ (AUN _),B4 hi]
     have ej:j=b.length:=(by omega);have he:=HE.out;rw[ej,AUS (AUN _)] at he;rw[Int.sub_zero,he,AVt,AUl]
   · intro p hp
     rw[Kb (by omega),h0 p (by omega)]
 | succ d ih =>
   intro j z c hj hz xu hc he h0;have HE:=Hd.mk he;clear he;have hy:=I5 hb.1 (j:Int);have hs:=I5 xu ((i+j:Nat):Int);have e:wrap64 ((i:Int)+(j:Int))=((i+j:Nat):Int):=(by rw[AG (by omega) (by omega)];omega);have e2:wrap64 ((j:Int)+1)=((j+1:Nat):Int):=(by rw[AG (by omega) (by omega)];omega);refine Ev.step (λk=>Bz.l1.eq_2 ..) ?_;rw[e,e2];refine Ev.AK (by omega) (Ev.AK (by omega) (Ev.AK (by omega) (Ev.AP (KL hx hy) (Ev.AK (by omega) (Ev.AK (by omega) ?_)))));generalize hP:rd a (i:Int)*rd b (j:Int)=P;have ATF:U (P%18446744073709551616):=(by unfold U;omega);refine Ev.AP (RJ hs ATF hc) ?_;dsimp only;rw[AUD];generalize hS:rd z ((i+j:Nat):Int)=S at *;unfold U at hx hc hs hy;have hP0:0<=P:=(by rw[<-hP];exact AUM hx.1 hy.1);have hbd:=xq (B:=18446744073709551616) (x:=rd a (i:Int)) (y:=rd b (j:Int)) (s:=S) (c:=c) (hi:=P/18446744073709551616) (lo:=P%18446744073709551616) (v:=(S+P%18446744073709551616+c)%18446744073709551616) (ov:=(S+P%18446744073709551616+c)/18446744073709551616) (by omega) hx.1 hx.2 hy.1 hy.2 hs.1 hs.2 hc.1 hc.2 (by omega) (by omega) (by omega) (by omega);rw[DC (by omega) (by omega)];refine ih (j+1) _ _ (by omega) (by simp;omega) (bV xu _ (by unfold U;omega)) (by unfold U;omega) ?_ ?_
   · have he:=HE.out
     have hq:S+P+c=18446744073709551616*(P/18446744073709551616+(S+P%18446744073709551616+c)/18446744073709551616)+(S+P%18446744073709551616+c)%18446744073709551616:=(by omega);rw[Xf _ _ _ (by omega),hS,B4 (by omega),<-AVq,Dl];generalize P/18446744073709551616+(S+P%18446744073709551616+c)/18446744073709551616=q at *;generalize (S+P%18446744073709551616+c)%18446744073709551616=r at *;have hc':c=18446744073709551616*q+r-P-S:=(by omega);rw[hc',<-hP] at he;have hWa:=UB i j
     grind
   · intro p hp
     rw[Kb (by omega),h0 p hp]
theorem tJ {a b:List Int} (ha:Wl a) (hb:Wl b) (hab:a.length+b.length<=1000000000) (d:Nat) : ∀(i:Nat) (z:List Int),i+d=a.length->z.length=a.length+b.length->Ws z->nv z=nv (a.take i)*nv b->(∀p:Nat,i+b.length<=p->rd z (p:Int)=0) ->
 Ev (λk=>Bz.l0 k b z a (a.length:Int) i) (dg (nv a*nv b)):=by
 induction d with
 | zero =>
   intro i z hi hz xu he h0;refine Ev.step (λk=>Bz.l0.eq_2 ..) ?_;refine Ev.AM (by omega) ?_;rw[AUS (by omega)] at he;rw[<-he];exact Ev.bind (DL ⟨xu,by omega⟩) (Ev.same rfl)
 | succ d ih =>
   intro i z hi hz xu he h0;refine Ev.step (λk=>Bz.l0.eq_2 ..) ?_;refine Ev.AK (by omega) (Ev.AK (by omega) (Ev.AK (by omega) ?_));exact tI ha hb hab (by omega) (λz h1 h2 h3 h4=>ih (i+1) z (by omega) h1 h2 h3 h4) b.length 0 z 0 (by omega) hz xu (by unfold U;omega) (by simp[nv];omega) h0
theorem dJ {a b:List Int} (ha:Wl a) (hb:Wl b) (hab:a.length+b.length<=1000000000):Ev (λk=>Bz.f k a b) (dg (nv a*nv b)):=by
 have e:wrap64 ((a.length:Int)+(b.length:Int))=((a.length+b.length:Nat):Int):=by rw[AG (by omega) (by omega)];omega
 unfold Bz.f;rw[e,AUD];refine Ev.AK (by omega) (Ev.AK (by omega) ?_);exact tJ ha hb hab a.length 0 _ (by omega) (by simp) (ZF _) (by rw[UC,AWP];simp[nv]) (λp _=>xp _ p)
theorem Wg {a:List Int} (ha:Wl a) (m:Nat):Ev (λk=>FX.f k a 0 (m:Int)) (dg (nv (a.take m))):=by
 have hal:=ha.2;have e0:mn (0:Int) (a.length:Int)=0:=by unfold mn;split<;>omega
 have e1:mn (m:Int) (a.length:Int)=((min m a.length:Nat):Int):=by unfold mn;split<;>omega
 unfold FX.f;rw[e0,e1];refine Ev.AK (by omega) (Ev.AK (by omega) (Ev.AK (by omega) ?_));have e2:(a.take ((min m a.length:Nat):Int).toNat).drop (0:Int).toNat=a.take m:=by
  rw[AUD];show List.drop 0 _=_;rw[AWO,List.take_eq_take_iff];omega
 rw[e2];exact Ev.bind (DL ⟨En ha.1 m,by rw[AUJ];omega⟩) (Ev.same rfl)
theorem UD {a:List Int} (ha:Wl a) (m:Nat):Ev (λk=>FX.f k a (m:Int) (a.length:Int)) (dg (nv (a.drop m))):=by
 have hal:=ha.2;have e0:mn (a.length:Int) (a.length:Int)=a.length:=by unfold mn;split<;>omega
 have e1:mn (m:Int) (a.length:Int)=((min m a.length:Nat):Int):=by unfold mn;split<;>omega
 unfold FX.f;rw[e0,e1];refine Ev.AK (by omega) (Ev.AK (by omega) (Ev.AK (by omega) ?_));have e2:(a.take (a.length:Int).toNat).drop ((min m a.length:Nat):Int).toNat=a.drop m:=by
  rw[AUD,AUD,AVP];rcases AXY m a.length with h | h
  · rw[AUa h]
  · rw[Nat.min_eq_right h,AUi (AUN _),AUi h]
 rw[e2];exact Ev.bind (DL ⟨Oz ha.1 m,by rw[AUn];omega⟩) (Ev.same rfl)
theorem tK {a:List Int} (ha:Wl a) {m:Nat} (hm:a.length+m<=1000000000):Ev (λk=>Ew.f k a (m:Int)) (dg (nv a*Wp m)):=by
 unfold Ew.f;rw[AUD];refine Ev.AK (by omega) (Ev.AK (by omega) (Ev.AP rfl (Ev.AK (by simp;omega) ?_)));have hv:nv a*Wp m=nv (List.replicate m 0++a):=by rw[kW,UC,AVS,AWY,AUQ]
 rw[hv];exact Ev.bind (DL ⟨bS.2 ⟨ZF _,ha.1⟩,by simp;omega⟩) (Ev.same rfl)
theorem ADu {l:List Int} (h:Ws l):(dg (nv l)).length<=l.length:=Nt (MS h)
theorem ADv {m:Nat} (hm:m<=100000000) {a0 a1 b0 b1:Int} (na0:0<=a0) (na1:0<=a1) (nb0:0<=b0) (nb1:0<=b1) (ba0:bl a0<=64*m) (ba1:bl a1<=64*m) (bb0:bl b0<=64*m) (bb1:bl b1<=64*m)
 {M:Nat->List Int->List Int->Option (List Int)} (ih : ∀x y:Int,0<=x->0<=y->bl x<=64*(m+1)->bl y<=64*(m+1)->Ev (λk=>M k (dg x) (dg y)) (dg (x*y))) :
 Ev (λk=>(M k (dg a0) (dg b0)).bind λAP4=>((M k (dg a1) (dg b1)).bind λAP5=>((Bc.f k (dg a0) (dg a1)).bind λATG=>((Bc.f k (dg b0) (dg b1)).bind λATH=>((M k ATG ATH).bind λATI=>((Bc.f k AP4 AP5).bind λATJ=>((Dk.f k ATI ATJ).bind λAP6=>((Ew.f k AP6.1 (m:Int)).bind λALI=>((Ew.f k AP5 ((2*m:Nat):Int)).bind λATK=>((Bc.f k ALI ATK).bind λATL=>((Bc.f k AP4 ATL).bind λAAZ=>(some AAZ))))))))))))
  (dg ((a0+Wp m*a1)*(b0+Wp m*b1))):=by
 have q : ∀x:Int,0<=x->bl x<=30000000000->Wl (dg x)/\nv (dg x)=x/\(dg x).length<=900000000/\((dg x).length:Int)<=(bl x+63)/64:=λx h h2=>⟨Av (by omega),AR h,by have:=AN x;omega,AN x⟩
 have add : ∀x y:Int,0<=x->0<=y->bl x<=30000000000->bl y<=30000000000->Ev (λk=>Bc.f k (dg x) (dg y)) (dg (x+y)):=λx y h1 h2 h3 h4=>by
  obtain⟨q1,q2,q3,_⟩:=q x h1 h3;obtain⟨r1,r2,r3,_⟩:=q y h2 h4;have:=bF q1 r1 (by omega) (by omega)
  rwa [q2,r2] at this
 have above : ∀(x:Int) (n:Nat),0<=x->bl x<=30000000000->n<=200000000->Ev (λk=>Ew.f k (dg x) (n:Int)) (dg (x*Wp n)):=λx n h1 h2 h3=>by
  obtain⟨q1,q2,_,q4⟩:=q x h1 h2;have:=tK q1 (m:=n) (by omega)
  rwa [q2] at this
 have bs:=Tt na0 na1 (m:=64*m) ba0 ba1;have bt:=Tt nb0 nb1 (m:=64*m) bb0 bb1;have n0:0<=a0*b0:=AUM na0 nb0;have n1:0<=a1*b1:=AUM na1 nb1;have nx1:0<=a0*b1:=AUM na0 nb1;have nx2:0<=a1*b0:=AUM na1 nb0;have b00:=Dt na0 nb0;have b11:=Dt na1 nb1;have bst:=Dt (x:=a0+a1) (y:=b0+b1) (by omega) (by omega);have eq:(a0+a1)*(b0+b1)=a0*b0+a1*b1+(a0*b1+a1*b0):=by grind
 have e2m:Wp (2*m)=Wp m*Wp m:=by rw[<-UB];congr 1;omega
 have goal:(a0+Wp m*a1)*(b0+Wp m*b1)=a0*b0+((a0*b1+a1*b0)*Wp m+a1*b1*Wp (2*m)):=by rw[e2m];grind
 have hW:=Ft m;have hW2:=Ft (2*m);have bW:bl (Wp m)<=64*m+1:=by
  have:=BF (x:=Wp m) (n:=64*m+1) (by rw[Hr,AUY];have:=pow_pos (64*m);omega);omega
 have bW2:bl (Wp (2*m))<=128*m+1:=by
  have:=BF (x:=Wp (2*m)) (n:=64*(2*m)+1) (by rw[Hr,AUY];have:=pow_pos (64*(2*m));omega);omega
 rw[goal];clear goal e2m;have M0:=ih a0 b0 na0 nb0 (by omega) (by omega);have M1:=ih a1 b1 na1 nb1 (by omega) (by omega);have M2:=ih (a0+a1) (b0+b1) (by omega) (by omega) (by omega) (by omega);rw[eq] at M2 bst;clear eq ih;have A1:=add a0 a1 na0 na1 (by omega) (by omega);have A2:=add b0 b1 nb0 nb1 (by omega) (by omega);generalize a0*b0=x0 at *;generalize a1*b1=x1 at *;generalize hmid:a0*b1+a1*b0=x2 at *;have n2:0<=x2:=by omega
 have bs2:=Tt n0 n1 (m:=128*m) (by omega) (by omega);have A3:=add x0 x1 n0 n1 (by omega) (by omega);have S1:Ev (λk=>Dk.f k (dg (x0+x1+x2)) (dg (x0+x1))) (dg x2,true):=by
  obtain⟨q1,q2,_,_⟩:=q (x0+x1+x2) (by omega) (by omega);obtain⟨r1,r2,_,_⟩:=q (x0+x1) (by omega) (by omega);have:=bG q1 r1 (by omega)
  rwa [q2,r2,show x0+x1+x2-(x0+x1)=x2 by omega] at this
 have AT4:=Bq (x:=x2) (y:=x0+x1+x2) (by omega);have U1:=above x2 m n2 (by omega) (by omega);have U2:=above x1 (2*m) n1 (by omega) (by omega);have bu1:=Dt n2 (AUE hW);have bu2:=Dt n1 (AUE hW2);have nu1:0<=x2*Wp m:=AUM n2 (AUE hW);have nu2:0<=x1*Wp (2*m):=AUM n1 (AUE hW2);have A4:=add _ _ nu1 nu2 (by omega) (by omega);have AT5:=Tt nu1 nu2 (m:=256*m+100) (by omega) (by omega);have A5:=add x0 _ n0 (Int.add_nonneg nu1 nu2) (by omega) (by omega);exact Ev.bind M0 (Ev.bind M1 (Ev.bind A1 (Ev.bind A2 (Ev.bind M2 (Ev.bind A3 (Ev.bind S1 (Ev.bind U1 (Ev.bind U2 (Ev.bind A4 (Ev.bind A5 (Ev.same rfl)))))))))))
theorem Vk (a:List Int) (m:Nat):nv a=nv (a.take m)+Wp m*nv (a.drop m):=by
 have sa:=ZG a m;rcases AXY m a.length with h | h
 · rw[AUa h] at sa;exact sa
 · rw[AUS h,AUi h];simp[nv]
theorem AA6 (n:Nat) : ∀a b:List Int,Wl a->Wl b->a.length<=n->b.length<=n->n<=100000000->Ev (λk=>D9.f k a b) (dg (nv a*nv b)):=by
 induction n using Nat.strongRecOn with
 | ind n ih =>
   intro a b ha hb hla hlb hn;refine Ev.step (λk=>D9.f.eq_2 ..) ?_;by_cases h1:(a.length:Int)<8
   · exact Ev.AK h1 (Ev.bind (dJ ha hb (by omega)) (Ev.same rfl))
   refine Ev.AM h1 ?_;by_cases h2:(b.length:Int)<8
   · exact Ev.AK h2 (Ev.bind (dJ ha hb (by omega)) (Ev.same rfl))
   refine Ev.AM h2 (Ev.bind ?_ (Ev.same rfl));obtain⟨m,hm⟩ : ∃m,m=(max a.length b.length+1)/2:=⟨_,rfl⟩;have hmn:m+1<n:=(by omega);have hma:a.length<=2*m:=(by omega);have hmb:b.length<=2*m:=(by omega);have em:wrap64 (Int.tdiv (wrap64 ((mx (a.length:Int) (b.length:Int))+1)) 2)=(m:Int):=by
    have:mx (a.length:Int) (b.length:Int)=((max a.length b.length:Nat):Int):=(by unfold mx;split<;>omega);rw[this,AG (n:=((max a.length b.length:Nat):Int)+1) (by omega) (by omega),AU4 (by omega),AG (by omega) (by omega)];omega
   clear hm;have em2:wrap64 (2*(m:Int))=((2*m:Nat):Int):=(by rw[AG (by omega) (by omega)];omega);unfold KW.f;rw[em,em2];clear em em2;have bd : ∀l:List Int,Ws l->l.length<=m->bl (nv l)<=64*m:=λl h h2=>by have:=GG h;omega
   have go:=ADv (m:=m) (by omega) (AS (En ha.1 m)) (AS (Oz ha.1 m)) (AS (En hb.1 m)) (AS (Oz hb.1 m))
    (bd _ (En ha.1 m) (by rw[AUJ];omega)) (bd _ (Oz ha.1 m) (by rw[AUn];omega)) (bd _ (En hb.1 m) (by rw[AUJ];omega)) (bd _ (Oz hb.1 m) (by rw[AUn];omega))
    (M:=λk=>D9.f k) (λx y hx hy bx bY=>by
      have kx:=AN x;have ky:=AN y;have:=ih (m+1) hmn (dg x) (dg y) (Av (by omega)) (Av (by omega)) (by omega) (by omega) (by omega)
      rwa [AR hx,AR hy] at this)
   rw[<-Vk,<-Vk] at go;exact Ev.bind (Wg ha m) (Ev.bind (UD ha m) (Ev.bind (Wg hb m) (Ev.bind (UD hb m) go)))
theorem Q8 {a b:List Int} (ha:Wl a) (hb:Wl b) (hla:a.length<=100000000) (hlb:b.length<=100000000):Ev (λk=>D9.f k a b) (dg (nv a*nv b)):=AA6 100000000 a b ha hb hla hlb (by omega)
theorem cr {x y:Int} (hx:0<=x) (hy:0<=y) (bx:bl x<=6000000000) (bY:bl y<=6000000000):Ev (λk=>D9.f k (dg x) (dg y)) (dg (x*y)):=by
 have kx:=AN x;have ky:=AN y;have:=Q8 (Av (n:=x) (by omega)) (Av (n:=y) (by omega)) (by omega) (by omega)
 rwa [AR hx,AR hy] at this
theorem AA7 : ∀(l:List Int) (p:Nat) (v:Int),p<l.length->hv (l.set p v)=hv l+Hp p*(v-rd l (p:Int))
 | [],p,v,h=>by simp at h
 | x::t,0,v,h=>by
   show v+4294967296*hv t=x+4294967296*hv t+1*(v-x);omega
 | x::t,p+1,v,h=>by
   have ih:=AA7 t p v (by simpa using h);have e:rd (x::t) ((p+1:Nat):Int)=rd t (p:Int):=(by unfold rd;simp);rw[AVy,K9,K9,ih,e,KH,AVp,AUl,Int.add_assoc]
theorem AHK {l:List Int} (h:Hs l) (p:Nat) {v:Int} (h0:0<=v) (h1:v<4294967296):Hs (l.set p v):=λx hx=>by
 rcases AXJ hx with h2 | h2
 · exact h x h2
 · rw[h2];exact⟨h0,h1⟩
theorem AHL (n:Nat):Hs (List.replicate n 0):=λx hx=>by rw[AXP hx];omega
theorem AHM (n:Nat):hv (List.replicate n 0)=0:=by
 induction n with
 | zero=>rfl
 | succ n ih=>rw[List.replicate_succ,K9,ih];rfl
theorem ALe (a b:Nat):Hp (a+b)=Hp a*Hp b:=by unfold Hp;rw[AUZ]
theorem tL {a b:List Int} (ha:Hs a) (hb:Hs b) (hab:a.length+b.length<=900000000) {i:Nat} (hi:i<a.length) {N:Int}
 (next : ∀z:List Int,z.length=a.length+b.length+1->Hs z->hv z=hv (a.take (i+1))*hv b->(∀p:Nat,i+1+b.length<=p->rd z (p:Int)=0)->Ev (λk=>BP.l0 k a b z (a.length:Int) ((i+1:Nat):Int)) (dg N))
 (d:Nat) : ∀(j:Nat) (z:List Int) (c:Int),j+d=b.length->z.length=a.length+b.length+1->Hs z->0<=c->c<4294967296->hv z+Hp (i+j)*c=hv (a.take i)*hv b+Hp i*(rd a (i:Int)*hv (b.take j))->(∀p:Nat,i+b.length<=p->rd z (p:Int)=0) ->
 Ev (λk=>BP.l1 k a b z (i:Int) c (a.length:Int) (i:Int) (b.length:Int) j) (dg N):=by
 have hx:=ZJ ha (i:Int);induction d with
 | zero =>
   intro j z c hj hz xu hc aU he h0;have HE:=Hd.mk he;clear he;have e:wrap64 ((i:Int)+(b.length:Int))=((i+b.length:Nat):Int):=(by rw[AG (by omega) (by omega)];omega);have e2:wrap64 ((i:Int)+1)=((i+1:Nat):Int):=(by rw[AG (by omega) (by omega)];omega);refine Ev.step (λk=>BP.l1.eq_2 ..) ?_;rw[e,e2];refine Ev.AM (by omega) (Ev.AK (by omega) (Ev.AK (by omega) ?_));rw[AUD];refine next _ (by simp;omega) (AHK xu _ hc aU) ?_ ?_
   · rw[AA7 _ _ _ (by omega),h0 _ (AUN _),GQ]
     have ej:j=b.length:=(by omega);have he:=HE.out;rw[ej,AUS (AUN _)] at he;rw[Int.sub_zero,he,AVt,AUl]
   · intro p hp
     rw[Kb (by omega),h0 p (by omega)]
 | succ d ih =>
   intro j z c hj hz xu hc aU he h0;have HE:=Hd.mk he;clear he;have hy:=ZJ hb (j:Int);have e:wrap64 ((i:Int)+(j:Int))=((i+j:Nat):Int):=(by rw[AG (by omega) (by omega)];rfl);have e2:wrap64 ((j:Int)+1)=((j+1:Nat):Int):=(by rw[AG (by omega) (by omega)];omega);refine Ev.step (λk=>BP.l1.eq_2 ..) ?_;rw[e,e2];have hPb:=JZ (m:=4294967295) (n:=4294967295) hx.1 (AWL hx.2) hy.1 (AWL hy.2);have hP0:=hPb.1;have hP1:rd a (i:Int)*rd b (j:Int)<=18446744065119617025:=AV5 hPb.2 (by decide);clear hPb;have hs:=ZJ xu ((i+j:Nat):Int);rw[AUD];generalize hP:rd a (i:Int)*rd b (j:Int)=P at *;generalize hS:rd z ((i+j:Nat):Int)=S at *;have HP:=Hd.mk hP;have HS:=Hd.mk hS;clear hP hS hx hy;rw[DC (n:=P) (by omega) (by omega),DC (n:=c+P) (by omega) (by omega),DC (by omega) (by omega),Wc _ (by omega) (by omega)];have hq:c+P+S=4294967296*((c+P+S)/4294967296)+(c+P+S)%4294967296:=(by omega);have hq0:0<=(c+P+S)/4294967296/\(c+P+S)/4294967296<4294967296:=(by omega);have Yc:0<=(c+P+S)%4294967296/\(c+P+S)%4294967296<4294967296:=(by omega);generalize (c+P+S)/4294967296=q at *;generalize (c+P+S)%4294967296=r at *;refine Ev.AK (by omega) (Ev.AK (by omega) (Ev.AK (by omega) (Ev.AK (by omega) (Ev.AK (by omega) (Ev.AK (by omega) (Ev.AK (by omega) ?_))))));refine ih (j+1) _ _ (by omega) (by simp;omega) (AHK xu _ Yc.1 Yc.2) hq0.1 hq0.2 ?_ ?_
   · have he:=HE.out
     rw[AA7 _ _ _ (by omega),HS.out,GQ,<-AVq,KH];have hc':c=4294967296*q+r-P-S:=(by omega);rw[hc',<-HP.out] at he;have hWa:=ALe i j
     grind
   · intro p hp
     rw[Kb (by omega),h0 p hp]
theorem tM {a b:List Int} (ha:Hs a) (hb:Hs b) (hab:a.length+b.length<=900000000) (d:Nat) : ∀(i:Nat) (z:List Int),i+d=a.length->z.length=a.length+b.length+1->Hs z->hv z=hv (a.take i)*hv b->(∀p:Nat,i+b.length<=p->rd z (p:Int)=0) ->
 Ev (λk=>BP.l0 k a b z (a.length:Int) i) (dg (hv a*hv b)):=by
 induction d with
 | zero =>
   intro i z hi hz xu he h0;refine Ev.step (λk=>BP.l0.eq_2 ..) ?_;refine Ev.AM (by omega) ?_;rw[AUS (by omega)] at he;rw[<-he];exact Ev.bind (Pp xu (by omega)) (Ev.same rfl)
 | succ d ih =>
   intro i z hi hz xu he h0;refine Ev.step (λk=>BP.l0.eq_2 ..) ?_;refine Ev.AK (by omega) ?_;exact tL ha hb hab (by omega) (λz h1 h2 h3 h4=>ih (i+1) z (by omega) h1 h2 h3 h4) b.length 0 z 0 (by omega) hz xu (by omega) (by omega) (by simp[hv];omega) h0
theorem FP {a b:List Int} (ha:Wl a) (hb:Wl b) (hla:a.length<=100000000) (hlb:b.length<=100000000):Ev (λk=>BP.f k a b) (dg (nv a*nv b)):=by
 obtain⟨a1,a2,a3⟩:=Vj ha.1;obtain⟨b1,b2,b3⟩:=Vj hb.1;refine Ev.bind (G7 ha (by omega)) (Ev.bind (G7 hb (by omega)) ?_);have e:wrap64 (wrap64 (((hh a).length:Int)+((hh b).length:Int))+1)=(((hh a).length+(hh b).length+1:Nat):Int):=by
  rw[AG (n:=((hh a).length:Int)+((hh b).length:Int)) (by omega) (by omega),AG (by omega) (by omega)];omega
 rw[e,AUD,<-a2,<-b2];refine Ev.AK (by omega) (Ev.AK (by omega) ?_);exact tM a1 b1 (by omega) (hh a).length 0 _ (by omega) (by simp) (AHL _) (by rw[AHM,AWP];simp[hv]) (λp _=>xp _ p)
theorem xw {a:List Int} (ha:Wl a) {d:Int} (zL:0<d) (hd:d<18446744073709551616) (n:Nat) : ∀(Q:List Int) (R:Int),n+Q.length=a.length->Ws Q->0<=R->R<d->nv (a.drop n)=nv Q*d+R-> ∀i:Int,i=(n:Int)-1 ->
 Ev (λk=>DS.l0 k a d (List.replicate n 0++Q) R i) (dg (nv a/d),nv a%d,true):=by
 have hal:=ha.2;induction n with
 | zero =>
   intro Q R hn hQ h0 h1 he i hi;refine Ev.step (λk=>DS.l0.eq_2 ..) ?_;refine Ev.AM (by omega) ?_;rw[AWO] at he;have hm:nv a/d=nv Q/\nv a%d=R:=by
    rw[he,AVr,AUQ];exact⟨by rw[AUy _ _ (by omega),AUo h0 h1];omega,by rw[AU6,AUp h0 h1]⟩
   rw[hm.1,hm.2];exact Ev.bind (DL (l:=Q) ⟨hQ,by omega⟩) (Ev.same rfl)
 | succ n ih =>
   intro Q R hn hQ h0 h1 he i hi;have ei:i=(n:Int):=(by omega);subst ei;have hx:=I5 ha.1 (n:Int);have e:wrap64 ((n:Int)-1)=(n:Int)-1:=AG (by omega) (by omega);have er:List.replicate (n+1) 0++Q=List.replicate n 0++(0:Int)::Q:=(by rw[AWx,AVQ];rfl);have es : ∀v,(List.replicate n 0++(0:Int)::Q).set (n:Int).toNat v=List.replicate n 0++v::Q:=λv=>by
    have:=ZL (List.replicate n 0) 0 v Q;rw[AVS] at this;rw[AUD];exact this
   refine Ev.step (λk=>DS.l0.eq_2 ..) ?_;rw[er,e];refine Ev.AK (by omega) (Ev.AK (by omega) (Ev.AK (by omega) (Ev.bind (Xb h0 h1 hd hx) (Ev.AK (by rw[AUR,AVS,AUu];omega) ?_))));dsimp only;rw[es];have hD:=AUV (R*18446744073709551616+rd a (n:Int)) d;have hm0:=AUe (R*18446744073709551616+rd a (n:Int)) (show d≠0 by omega);have hm1:=AUd (R*18446744073709551616+rd a (n:Int)) zL;have hq0:0<=(R*18446744073709551616+rd a (n:Int))/d:=AUX (by have:=hx.1;omega) (by omega);have hq1:(R*18446744073709551616+rd a (n:Int))/d<18446744073709551616:=by
    rw[AUg zL];have:=hx.2;have h2:(R+1)*18446744073709551616<=d*18446744073709551616:=AUL (by omega) (by omega);omega
   generalize (R*18446744073709551616+rd a (n:Int))/d=q at *;generalize (R*18446744073709551616+rd a (n:Int))%d=r at *;refine ih (q::Q) r (by rw[AUu];omega) (Ht.2 ⟨⟨hq0,hq1⟩,hQ⟩) hm0 hm1 ?_ _ rfl;rw[KG (by omega),Ck,Ck,he];generalize rd a (n:Int)=x at *
   grind
theorem dK {a:List Int} (ha:Wl a) {d:Int} (zL:0<d) (hd:d<18446744073709551616):Ev (λk=>DS.f k a d) (dg (nv a/d),nv a%d,true):=by
 have hal:=ha.2;refine Ev.AM (by omega) (Ev.AK (by omega) (Ev.AK (by rw[AUD];omega) ?_));have:=xw ha zL hd a.length [] 0 (by simp) Jr (by omega) zL (by rw[AUi (AUN _)];simp[nv]) (wrap64 ((a.length:Int)-1)) (AG (by omega) (by omega));rw[AVW] at this;rw[AUD];exact this
theorem xx {z0 d:List Int} (hd:Wl d) {j:Nat} {qh:Int} (hq:U qh) (hj:j+d.length<z0.length) (zG:z0.length<=1000000000) (e:Nat) : ∀(i:Nat) (z:List Int) (c b:Int),i+e=d.length->z.length=z0.length->Ws z->U c->0<=b->b<=1->nv z-Wp (j+i)*(c+b)=nv z0-Wp j*(qh*nv (d.take i))->(∀p:Nat,j+d.length<p->rd z (p:Int)=rd z0 (p:Int)) ->
 ∃(z':List Int) (b':Int),Ev (λk=>Cv.l0 k z d (j:Int) qh c b d (d.length:Int) i) (b' !=0,z')/\z'.length=z0.length/\Ws z'/\0<=b'/\b'<=1/\nv z'=nv z0-Wp j*(qh*nv d)+Wp (j+d.length+1)*b'/\(∀p:Nat,j+d.length<p->rd z' (p:Int)=rd z0 (p:Int)):=by
 induction e with
 | zero =>
   intro i z c b hi hz hw hc hb0 hb1 he ha;have HE:=Hd.mk he;clear he;have ei:i=d.length:=(by omega);have ew:wrap64 ((j:Int)+(d.length:Int))=((j+d.length:Nat):Int):=(by rw[AG (by omega) (by omega)];omega);have hx:=I5 hw ((j+d.length:Nat):Int);have S:=N9 hx hc (c:=b) (by unfold U;omega);have hval:nv (z.set (j+d.length) ((rd z ((j+d.length:Nat):Int)-c-b)%18446744073709551616))=nv z0-Wp j*(qh*nv d)+Wp (j+d.length+1)*(-((rd z ((j+d.length:Nat):Int)-c-b)/18446744073709551616)):=by
    have he:=HE.out;rw[ei,AVP] at he;rw[Xf _ _ _ (by omega),Dl];generalize rd z ((j+d.length:Nat):Int)=x at *;have hs:x-c-b=18446744073709551616*((x-c-b)/18446744073709551616)+(x-c-b)%18446744073709551616:=(by omega);generalize (x-c-b)/18446744073709551616=q at *;generalize (x-c-b)%18446744073709551616=r at *;have hx':x=18446744073709551616*q+r+c+b:=(by omega);rw[hx']
    grind
   refine⟨z.set (j+d.length) ((rd z ((j+d.length:Nat):Int)-c-b)%18446744073709551616),-((rd z ((j+d.length:Nat):Int)-c-b)/18446744073709551616), ?_,by rw[AUz,hz],bV hw _ ?_, ?_, ?_,hval, ?_⟩
   · refine Ev.step (λk=>Cv.l0.eq_2 ..) ?_
     rw[ew];refine Ev.AM (by omega) (Ev.AK (by omega) (Ev.AK (by omega) (Ev.AP S (Ev.same ?_))));rw[AUD]
   · unfold U;omega
   · unfold U at hx hc;omega
   · unfold U at hx hc;omega
   · intro p hp
     rw[Kb (by omega)];exact ha p hp
 | succ e ih =>
   intro i z c b hi hz hw hc hb0 hb1 he ha;have HE:=Hd.mk he;clear he;have ew:wrap64 ((j:Int)+(i:Int))=((j+i:Nat):Int):=(by rw[AG (by omega) (by omega)];omega);have ew2:wrap64 ((i:Int)+1)=((i+1:Nat):Int):=(by rw[AG (by omega) (by omega)];omega);have hx:=I5 hw ((j+i:Nat):Int);have hy:=I5 hd.1 (i:Int);have M:=KL hy hq;have hP0:0<=rd d (i:Int)*qh:=AUM hy.1 hq.1;generalize hP:rd d (i:Int)*qh=P at *;have hlo:U (P%18446744073709551616):=(by clear hP;unfold U;omega);have A:=RJ hlo hc (c:=0) (by unfold U;omega);have hbd:P/18446744073709551616+(P%18446744073709551616+c+0)/18446744073709551616<18446744073709551616 :=
    xq (B:=18446744073709551616) (x:=rd d (i:Int)) (y:=qh) (s:=0) (c:=c) (hi:=P/18446744073709551616) (lo:=P%18446744073709551616) (v:=(P%18446744073709551616+c+0)%18446744073709551616) (ov:=(P%18446744073709551616+c+0)/18446744073709551616) (by omega) hy.1 hy.2 hq.1 hq.2 (by omega) (by omega) hc.1 hc.2 (by rw[hP];clear hP;omega) (by clear hP;omega) (by clear hP;omega) (by clear hP;omega)
   have HP:=Hd.mk hP;clear hP;have hs1:U ((P%18446744073709551616+c+0)%18446744073709551616):=(by unfold U;omega);have aU:U (P/18446744073709551616+(P%18446744073709551616+c+0)/18446744073709551616):=(by unfold U at hc ⊢;omega);have hcs:P+c=18446744073709551616*(P/18446744073709551616+(P%18446744073709551616+c+0)/18446744073709551616)+(P%18446744073709551616+c+0)%18446744073709551616:=(by omega);have S:=N9 hx hs1 (c:=b) (by unfold U;omega);refine(?_ : ∃(z':List Int) (b':Int),_);have ewu:IntKind.u64.wrap (P/18446744073709551616+(P%18446744073709551616+c+0)/18446744073709551616)=P/18446744073709551616+(P%18446744073709551616+c+0)/18446744073709551616:=DC aU.1 aU.2;have st : ∀ {r:Bool × List Int},Ev (λk=>Cv.l0 k (z.set (j+i) ((rd z ((j+i:Nat):Int)-(P%18446744073709551616+c+0)%18446744073709551616-b)%18446744073709551616)) d (j:Int) qh (P/18446744073709551616+(P%18446744073709551616+c+0)/18446744073709551616) (-((rd z ((j+i:Nat):Int)-(P%18446744073709551616+c+0)%18446744073709551616-b)/18446744073709551616)) d (d.length:Int) ((i+1:Nat):Int)) r->Ev (λk=>Cv.l0 k z d (j:Int) qh c b d (d.length:Int) i) r:=by
    intro r h;refine Ev.step (λk=>Cv.l0.eq_2 ..) ?_;rw[ew,ew2];refine Ev.AK (by omega) (Ev.AK (by omega) (Ev.AK (by omega) (Ev.AP M (Ev.AP A (Ev.AK (by omega) (Ev.AK (by omega) (Ev.AP S ?_)))))));dsimp only;rw[AUD,ewu];exact h
   generalize P/18446744073709551616+(P%18446744073709551616+c+0)/18446744073709551616=c' at *;generalize (P%18446744073709551616+c+0)%18446744073709551616=s at *;clear M A S ew ew2 ewu hbd hlo;have hxs:rd z ((j+i:Nat):Int)-s-b=18446744073709551616*((rd z ((j+i:Nat):Int)-s-b)/18446744073709551616)+(rd z ((j+i:Nat):Int)-s-b)%18446744073709551616:=(by omega);obtain⟨z',b',h1,h2,h3,h4,h5,h6,h7⟩:=ih (i+1) _ c' (-((rd z ((j+i:Nat):Int)-s-b)/18446744073709551616)) (by omega) (by rw[AUz,hz]) (bV (p:=j+i) (v:=(rd z ((j+i:Nat):Int)-s-b)%18446744073709551616) hw (by unfold U;omega)) aU (by unfold U at hx hs1;omega) (by unfold U at hx hs1;omega) (by
    have he:=HE.out;have hp:=HP.out;rw[Xf _ _ _ (by omega),B4 (by omega),<-AVq,Dl];have hw2:=UB j i;generalize rd z ((j+i:Nat):Int)=x at *;generalize rd d (i:Int)=y at *;generalize (x-s-b)/18446744073709551616=q at *;generalize (x-s-b)%18446744073709551616=r at *;have hx':x=18446744073709551616*q+r+s+b:=(by omega);have hs':s=y*qh+c-18446744073709551616*c':=(by omega);rw[hx',hs']
    grind) (λp hp=>by rw[Kb (by omega)];exact ha p hp)
   exact⟨z',b',st h1,h2,h3,h4,h5,h6,h7⟩
theorem xy {z0 d:List Int} (hz:Ws z0) (hd:Wl d) {j:Nat} {qh:Int} (hq:U qh) (hj:j+d.length<z0.length) (zG:z0.length<=1000000000) :
 ∃(z':List Int) (b':Int),Ev (λk=>Cv.f k z0 d (j:Int) qh) (b' !=0,z')/\z'.length=z0.length/\Ws z'/\0<=b'/\b'<=1/\nv z'=nv z0-Wp j*(qh*nv d)+Wp (j+d.length+1)*b'/\(∀p:Nat,j+d.length<p->rd z' (p:Int)=rd z0 (p:Int)) :=
 xx hd hq hj zG d.length 0 z0 0 0 (by omega) rfl hz (by unfold U;omega) (by omega) (by omega) (by simp[nv]) (λ_ _=>rfl)
theorem xz {z0 d:List Int} (hd:Wl d) {j:Nat} (hj:j+d.length<z0.length) (zG:z0.length<=1000000000) (e:Nat) : ∀(i:Nat) (z:List Int) (c:Int),i+e=d.length->z.length=z0.length->Ws z->0<=c->c<=1->nv z+Wp (j+i)*c=nv z0+Wp j*nv (d.take i)->(∀p:Nat,j+d.length<p->rd z (p:Int)=rd z0 (p:Int)) ->
 ∃(z':List Int) (o:Int),Ev (λk=>C7.l0 k z d (j:Int) c d (d.length:Int) i) z'/\z'.length=z0.length/\Ws z'/\0<=o/\o<=1/\nv z'=nv z0+Wp j*nv d-Wp (j+d.length+1)*o/\(∀p:Nat,j+d.length<p->rd z' (p:Int)=rd z0 (p:Int)):=by
 induction e with
 | zero =>
   intro i z c hi hz hw hc aU he ha;have HE:=Hd.mk he;clear he;have ei:i=d.length:=(by omega);have ew:wrap64 ((j:Int)+(d.length:Int))=((j+d.length:Nat):Int):=(by rw[AG (by omega) (by omega)];omega);have hx:=I5 hw ((j+d.length:Nat):Int);have hval:nv (z.set (j+d.length) ((rd z ((j+d.length:Nat):Int)+c)%18446744073709551616))=nv z0+Wp j*nv d-Wp (j+d.length+1)*((rd z ((j+d.length:Nat):Int)+c)/18446744073709551616):=by
    have he:=HE.out;rw[ei,AVP] at he;rw[Xf _ _ _ (by omega),Dl];generalize rd z ((j+d.length:Nat):Int)=x at *;have hs:x+c=18446744073709551616*((x+c)/18446744073709551616)+(x+c)%18446744073709551616:=(by omega);generalize (x+c)/18446744073709551616=q at *;generalize (x+c)%18446744073709551616=r at *;have hx':x=18446744073709551616*q+r-c:=(by omega);rw[hx']
    grind
   refine⟨z.set (j+d.length) ((rd z ((j+d.length:Nat):Int)+c)%18446744073709551616),(rd z ((j+d.length:Nat):Int)+c)/18446744073709551616, ?_,by rw[AUz,hz],bV hw _ ?_, ?_, ?_,hval, ?_⟩
   · refine Ev.step (λk=>C7.l0.eq_2 ..) ?_
     rw[ew];refine Ev.AM (by omega) (Ev.AK (by omega) (Ev.AK (by omega) (Ev.same ?_)));rw[AUD,wu]
   · unfold U;omega
   · unfold U at hx;omega
   · unfold U at hx;omega
   · intro p hp
     rw[Kb (by omega)];exact ha p hp
 | succ e ih =>
   intro i z c hi hz hw hc aU he ha;have HE:=Hd.mk he;clear he;have ew:wrap64 ((j:Int)+(i:Int))=((j+i:Nat):Int):=(by rw[AG (by omega) (by omega)];omega);have ew2:wrap64 ((i:Int)+1)=((i+1:Nat):Int):=(by rw[AG (by omega) (by omega)];omega);have hx:=I5 hw ((j+i:Nat):Int);have hy:=I5 hd.1 (i:Int);have A:=RJ hx hy (c:=c) (by unfold U;omega);have st : ∀ {r:List Int},Ev (λk=>C7.l0 k (z.set (j+i) ((rd z ((j+i:Nat):Int)+rd d (i:Int)+c)%18446744073709551616)) d (j:Int) ((rd z ((j+i:Nat):Int)+rd d (i:Int)+c)/18446744073709551616) d (d.length:Int) ((i+1:Nat):Int)) r->Ev (λk=>C7.l0 k z d (j:Int) c d (d.length:Int) i) r:=by
    intro r h;refine Ev.step (λk=>C7.l0.eq_2 ..) ?_;rw[ew,ew2];refine Ev.AK (by omega) (Ev.AK (by omega) (Ev.AK (by omega) (Ev.AK (by omega) (Ev.AK (by omega) (Ev.AP A ?_)))));dsimp only;rw[AUD];exact h
   clear A ew ew2;obtain⟨z',b',h1,h2,h3,h4,h5,h6,h7⟩:=ih (i+1) _ ((rd z ((j+i:Nat):Int)+rd d (i:Int)+c)/18446744073709551616) (by omega) (by rw[AUz,hz]) (bV (p:=j+i) (v:=(rd z ((j+i:Nat):Int)+rd d (i:Int)+c)%18446744073709551616) hw (by unfold U;omega))
    (by have:=hx.1;have:=hy.1;generalize rd z ((j+i:Nat):Int)=x at *;generalize rd d (i:Int)=y at *;omega) (by have:=hx.2;have:=hy.2;generalize rd z ((j+i:Nat):Int)=x at *;generalize rd d (i:Int)=y at *;omega) (by
      have he:=HE.out;rw[Xf _ _ _ (by omega),B4 (by omega),<-AVq,Dl];have hw2:=UB j i;generalize rd z ((j+i:Nat):Int)=x at *;generalize rd d (i:Int)=y at *;have hq:x+y+c=18446744073709551616*((x+y+c)/18446744073709551616)+(x+y+c)%18446744073709551616:=(by omega);generalize (x+y+c)/18446744073709551616=q at *;generalize (x+y+c)%18446744073709551616=r at *;have hc':c=18446744073709551616*q+r-x-y:=(by omega);rw[hc'] at he
      grind) (λp hp=>by rw[Kb (by omega)];exact ha p hp)
   exact⟨z',b',st h1,h2,h3,h4,h5,h6,h7⟩
theorem yA {z0 d:List Int} (hz:Ws z0) (hd:Wl d) {j:Nat} (hj:j+d.length<z0.length) (zG:z0.length<=1000000000) :
 ∃(z':List Int) (o:Int),Ev (λk=>C7.f k z0 d (j:Int)) z'/\z'.length=z0.length/\Ws z'/\0<=o/\o<=1/\nv z'=nv z0+Wp j*nv d-Wp (j+d.length+1)*o/\(∀p:Nat,j+d.length<p->rd z' (p:Int)=rd z0 (p:Int)) :=
 xz hd hj zG d.length 0 z0 0 (by omega) rfl hz (by omega) (by omega) (by simp[nv]) (λ_ _=>rfl)
theorem UE {t r1 r2 v1 v2:Int} (ht:U t) (hr1:U r1) (vY:U r2) (hv1:U v1) (yB:U v2) {x:Int} (hx:U x) (hle:x*v1<=t*18446744073709551616+r1) :
 (x*v2<=(t*18446744073709551616+r1-x*v1)*18446744073709551616+r2->Ev (λk=>BW.l0 k x t r1 r2 v1 v2) x) /\
 (¬x*v2<=(t*18446744073709551616+r1-x*v1)*18446744073709551616+r2-> ∀y:Int,Ev (λk=>BW.l0 k (x-1) t r1 r2 v1 v2) y->Ev (λk=>BW.l0 k x t r1 r2 v1 v2) y):=by
 have M1:=KL hx hv1;have M2:=KL hx yB;have p0:0<=x*v1:=AUM hx.1 hv1.1;have q0:0<=x*v2:=AUM hx.1 yB.1;have q1:=JZ (m:=18446744073709551615) (n:=18446744073709551615) hx.1 (AWL hx.2) yB.1 (AWL yB.2);have q2:x*v2<=340282366920938463426481119284349108225:=AV5 q1.2 (by decide);clear q1;have x0:x=0->x*v2=0:=λh=>by rw[h,AVO]
 generalize x*v1=P at *;generalize x*v2=Q at *;have S1:=N9 hr1 (b:=P%18446744073709551616) (by unfold U;omega) (c:=0) (by unfold U;omega);have hb:U (-((r1-P%18446744073709551616-0)/18446744073709551616)):=by unfold U at *;omega
 have S2:=N9 ht (b:=P/18446744073709551616) (by unfold U at *;omega) hb;unfold U at ht hr1 vY;have e1:(r1-P%18446744073709551616-0)%18446744073709551616=(t*18446744073709551616+r1-P)%18446744073709551616:=by omega
 have e2:(t-P/18446744073709551616 - -((r1-P%18446744073709551616-0)/18446744073709551616))%18446744073709551616=(t*18446744073709551616+r1-P)/18446744073709551616:=by omega
 have AT6:0<=t*18446744073709551616+r1-P:=by omega
 rw[e1] at S1;rw[e2] at S2;clear e1 e2 hb;generalize t*18446744073709551616+r1-P=m at *;have go : ∀y:Int,(Q<=m*18446744073709551616+r2->y=x)->(¬Q<=m*18446744073709551616+r2->Ev (λk=>BW.l0 k (IntKind.u64.wrap (x-1)) t r1 r2 v1 v2) y)->Ev (λk=>BW.l0 k x t r1 r2 v1 v2) y:=by
  intro y yes no;refine Ev.step (λk=>BW.l0.eq_2 ..) ?_;refine Ev.AP M1 (Ev.AP S1 (Ev.AP S2 (Ev.AP M2 ?_)));dsimp only;by_cases c1:m/18446744073709551616=0
  · refine Ev.AK c1 ?_
    by_cases c2:Q/18446744073709551616<m%18446744073709551616
    · exact Ev.AK c2 (Ev.same (by rw[yes (by omega)]))
    · refine Ev.AM c2 ?_
      by_cases c3:Q/18446744073709551616=m%18446744073709551616
      · refine Ev.AK c3 ?_
        by_cases c4:Q%18446744073709551616<=r2
        · exact Ev.AK c4 (Ev.same (by rw[yes (by omega)]))
        · exact Ev.AM c4 (no (by omega))
      · exact Ev.AM c3 (no (by omega))
  · exact Ev.AM c1 (Ev.same (by rw[yes (by omega)]))
 refine⟨λh=>go x (λ_=>rfl) (λh2=>absurd h h2),λh y hy=>go y (λh2=>absurd h2 h) (λ_=> ?_)⟩;have hx1:1<=x:=by
  rcases(show x=0\/1<=x by have:=hx.1;omega) with h0 | h0
  · exfalso
    have:=x0 h0;omega
  · exact h0
 rw[DC (by omega) (by have:=hx.2;omega)];exact hy
theorem UF {t r1 r2 v1 v2:Int} (ht:U t) (hr1:U r1) (vY:U r2) (hv1:U v1) (yB:U v2) (n:Nat) : ∀x:Int,x.toNat<=n->U x->x*v1<=t*18446744073709551616+r1 ->
 ∃y:Int,Ev (λk=>BW.l0 k x t r1 r2 v1 v2) y/\0<=y/\y<=x/\y*(v1*18446744073709551616+v2)<=(t*18446744073709551616+r1)*18446744073709551616+r2/\(y=x\/(t*18446744073709551616+r1)*18446744073709551616+r2<(y+1)*(v1*18446744073709551616+v2)):=by
 have T0:0<=t*18446744073709551616+r1:=by have:=ht.1;have:=hr1.1;omega
 have key : ∀x:Int,x*(v1*18446744073709551616+v2)=x*v1*18446744073709551616+x*v2:=λx=>by grind
 induction n with
 | zero =>
   intro x hn hx hle;have h0:x=0:=(by have:=hx.1;omega);have h:=(UE ht hr1 vY hv1 yB hx hle).1 (by rw[h0,AVO,AVO];have:=vY.1;omega);exact⟨x,h,hx.1,AW6 _,by rw[h0,AVO];have:=vY.1;omega, .inl rfl⟩
 | succ n ih =>
   intro x hn hx hle;obtain⟨s1,s2⟩:=UE ht hr1 vY hv1 yB hx hle;have hk:=key x;by_cases h:x*v2<=(t*18446744073709551616+r1-x*v1)*18446744073709551616+r2
   · exact⟨x,s1 h,hx.1,AW6 _,by rw[hk];omega, .inl rfl⟩
   · have x0:x=0->x*v2=0/\x*v1=0:=λh=>by rw[h,AVO,AVO];exact⟨rfl,rfl⟩
     have hx1:1<=x:=by
      rcases(show x=0\/1<=x by have:=hx.1;omega) with h0 | h0
      · exfalso
        have:=x0 h0;have:=vY.1;omega
      · exact h0
     have hm:(x-1)*v1=x*v1-v1:=(by rw[AXa,AVd]);obtain⟨y,h1,h2,h3,h4,h5⟩:=ih (x-1) (by omega) ⟨by omega,by have:=hx.2;omega⟩ (by rw[hm];have:=hv1.1;omega);refine⟨y,s2 h y h1,h2,by omega,h4, .inr ?_⟩;rcases h5 with h5 | h5
     · rw[h5,Int.sub_add_cancel,hk];omega
     · exact h5
theorem tN {z:List Int} (hz:Ws z) (hl:z.length<=1000000000) {p:Nat} (Mw:2<=p) (hp:p<z.length) {v1 v2:Int} (hv1:U v1) (yB:U v2) (hv0:0<v1) (ADw:rd z (p:Int)<=v1) :
 ∃y:Int,Ev (λk=>Gb.f k z (p:Int) v1 v2) y/\U y /\
  y*(v1*18446744073709551616+v2)<=(rd z (p:Int)*18446744073709551616+rd z ((p-1:Nat):Int))*18446744073709551616+rd z ((p-2:Nat):Int) /\
  (y=18446744073709551615\/(rd z (p:Int)*18446744073709551616+rd z ((p-1:Nat):Int))*18446744073709551616+rd z ((p-2:Nat):Int)<(y+1)*(v1*18446744073709551616+v2)):=by
 have ht:=I5 hz (p:Int);have h1:=I5 hz ((p-1:Nat):Int);have h2:=I5 hz ((p-2:Nat):Int);have e1:wrap64 ((p:Int)-1)=((p-1:Nat):Int):=by rw[AG (by omega) (by omega)];omega
 have e2:wrap64 ((p:Int)-2)=((p-2:Nat):Int):=by rw[AG (by omega) (by omega)];omega
 have st : ∀y:Int,(rd z (p:Int)>=v1->Ev (λk=>BW.l0 k 18446744073709551615 (rd z (p:Int)) (rd z ((p-1:Nat):Int)) (rd z ((p-2:Nat):Int)) v1 v2) y) ->
  (¬rd z (p:Int)>=v1->Ev (λk=>BW.l0 k ((rd z (p:Int)*18446744073709551616+rd z ((p-1:Nat):Int))/v1) (rd z (p:Int)) (rd z ((p-1:Nat):Int)) (rd z ((p-2:Nat):Int)) v1 v2) y)->Ev (λk=>Gb.f k z (p:Int) v1 v2) y:=by
  intro y f1 f2;unfold Gb.f;rw[e1,e2];refine Ev.AK (by omega) (Ev.AK (by omega) (Ev.AK (by omega) (Ev.AK (by omega) (Ev.AK (by omega) (Ev.AK (by omega) ?_)))));by_cases h:rd z (p:Int)>=v1
  · exact Ev.AK h (Ev.bind (f1 h) (Ev.same rfl))
  · exact Ev.AM h (Ev.bind (Xb ht.1 (by omega) hv1.2 h1) (Ev.bind (f2 h) (Ev.same rfl)))
 clear e1 e2;generalize rd z (p:Int)=t at *;generalize rd z ((p-1:Nat):Int)=r1 at *;generalize rd z ((p-2:Nat):Int)=r2 at *;by_cases h:t>=v1
 · have et:t=v1:=by omega
   obtain⟨y,y1,y2,y3,y4,y5⟩:=UF ht h1 h2 hv1 yB 18446744073709551615 18446744073709551615 (by decide) (by unfold U;omega) (by have:=h1.1;omega);exact⟨y,st y (λ_=>y1) (λh2=>absurd h h2),⟨y2,by omega⟩,y4,y5⟩
 · have hx0:0<=(t*18446744073709551616+r1)/v1:=AUX (by have:=ht.1;have:=h1.1;omega) (by omega)
   have hD:=AUV (t*18446744073709551616+r1) v1;have hm0:=AUe (t*18446744073709551616+r1) (show v1≠0 by omega);have hm1:=AUd (t*18446744073709551616+r1) hv0;have hx1:(t*18446744073709551616+r1)/v1<18446744073709551616:=by
    rw[AUg hv0];have:=h1.2;have h3:(t+1)*18446744073709551616<=v1*18446744073709551616:=AUL (by omega) (by omega);omega
   generalize hx:(t*18446744073709551616+r1)/v1=x at *;rw[AUQ] at hD;obtain⟨y,y1,y2,y3,y4,y5⟩:=UF ht h1 h2 hv1 yB x.toNat x (AUN _) ⟨hx0,hx1⟩ (by omega);refine⟨y,st y (λh2=>absurd h2 h) (λ_=>y1),⟨y2,by omega⟩,y4, .inr ?_⟩;rcases y5 with y5 | y5
   · have h3:t*18446744073709551616+r1+1<=(y+1)*v1:=by rw[y5,AVt,AVd];omega
     have h4:(y+1)*(v1*18446744073709551616+v2)=(y+1)*v1*18446744073709551616+(y+1)*v2:=(by grind);have h5:0<=(y+1)*v2:=AUM (by omega) yB.1;have:=h2.2;rw[h4];generalize (y+1)*v1=e at *;generalize (y+1)*v2=f at *;omega
   · exact y5
theorem kn : ∀ {l:List Int},Ws l->nv l=0-> ∀p:Nat,rd l (p:Int)=0
 | [],_,_,p=>by unfold rd;simp
 | x::t,h,h0,p=>by
   obtain⟨hx,ht⟩:=Ht.1 h;have hn:=AS ht;rw[Ck] at h0;have:=hx.1;cases p with
   | zero=>show x=0;omega
   | succ p =>
     have e:rd (x::t) ((p+1:Nat):Int)=rd t (p:Int):=(by unfold rd;simp);rw[e];exact kn ht (by omega) p
theorem Xg : ∀ {l:List Int},(∀p:Nat,rd l (p:Int)=0)->nv l=0
 | [],_=>rfl
 | x::t,h=>by
   have h0:x=0:=h 0;have ht:nv t=0:=Xg λp=>by
    have e:rd (x::t) ((p+1:Nat):Int)=rd t (p:Int):=(by unfold rd;simp);rw[<-e];exact h (p+1)
   rw[Ck,h0,ht];rfl
theorem tO (l:List Int) (k p:Nat):rd (l.drop k) (p:Int)=rd l ((k+p:Nat):Int):=by
 unfold rd;rw[AUF,AUF,AUD,AUD,AUh]
theorem Xh {l:List Int} (h:Ws l) {k:Nat} (hlt:nv l<Wp k) : ∀p:Nat,k<=p->rd l (p:Int)=0:=by
 intro p hp;have h1:=QT h k;rw[AUo (AS h) hlt] at h1;have h2:=kn (Oz h k) h1.symm (p-k);rw[tO,show k+(p-k)=p by omega] at h2;exact h2
theorem yC {l:List Int} (h:Ws l) {k:Nat} (h0 : ∀p:Nat,k<=p->rd l (p:Int)=0):nv l<Wp k:=by
 have h1:nv (l.drop k)=0:=Xg λp=>by rw[tO];exact h0 _ (by omega)
 have h2:=QT h k;rw[h1] at h2;have h3:=AUV (nv l) (Wp k);have h4:=AUd (nv l) (Ft k);rw[h2] at h3;omega
theorem AP7 {J K D R T v low dl y:Int} (hJ:0<J) (hK:0<K) (hR:R=T*(J*K)+low) (hl0:0<=low) (hl1:low<J*K) (hD:D=v*K+dl) (zL:0<=dl) (hd1:dl<K) (hv:18446744073709551616<=v) (hy0:0<=y) (hy1:y<18446744073709551616)
 (h1:y*v<=T) (h2:y=18446744073709551615\/T<(y+1)*v) (h3:R<D*J*18446744073709551616):R<J*(D*(y+1))/\J*(D*(y-1))<=R:=by
 have hJK:0<J*K:=AU3 hJ hK;have hvD:v*K<=D:=by omega
 have hT0:0<=T:=AV5 (AUM hy0 (by omega)) h1;constructor
 · rcases h2 with h2 | h2
   · rw[h2,show J*(D*(18446744073709551615+1))=D*J*18446744073709551616 by grind];exact h3
   · have a1:(T+1)*(J*K)<=(y+1)*v*(J*K):=AUL (by omega) (AUE hJK)
     have a2:J*(y+1)*(v*K)<=J*(y+1)*D:=AUb hvD (AUM (AUE hJ) (by omega));have a3:(y+1)*v*(J*K)=J*(y+1)*(v*K):=(by grind);have a4:J*(D*(y+1))=J*(y+1)*D:=(by grind);rw[AVt,AVd] at a1;omega
 · have r0:0<=R:=by have:=AUM hT0 (AUE hJK);omega
   rcases(show y=0\/1<=y by omega) with h | h
   · have hD0:0<=D:=by have:=AUM (show 0<=v by omega) (AUE hK);omega
     have:J*(D*(y-1))= -(J*D):=(by rw[h];grind);have h5:=AUM (AUE hJ) hD0;omega
   · have b1:D<=(v+1)*K:=by rw[AVt,AVd];omega
     have b2:(y-1)*D<=(y-1)*((v+1)*K):=AUb b1 (by omega);have b3:(y-1)*(v+1)<=y*v:=by
      have:(y-1)*(v+1)=y*v-v+y-1:=(by grind);omega
     have b4:(y-1)*(v+1)*K<=T*K:=AUL (AV5 b3 h1) (AUE hK);have b5:(y-1)*D<=T*K:=(by rw[<-AUl] at b2;omega);have b6:=AUb b5 (AUE hJ);have b7:J*(D*(y-1))=J*((y-1)*D):=(by rw[AUQ D]);have b8:J*(T*K)=T*(J*K):=(by grind);omega
theorem ADx {l:List Int} (h:Ws l) {p:Nat} (h2:2<=p) (hp:p<l.length) (hz:nv l<Wp (p+1)) :
 ∃low:Int,0<=low/\low<Wp (p-2)/\nv l=((rd l (p:Int)*18446744073709551616+rd l ((p-1:Nat):Int))*18446744073709551616+rd l ((p-2:Nat):Int))*Wp (p-2)+low:=by
 refine⟨nv (l.take (p-2)),AS (En h _), ?_, ?_⟩
 · have:=MS (En h (p-2))
   rwa [AUJ,AUa (by omega)] at this
 · have h0:nv (l.drop (p+1))=0:=Xg λq=>by rw[tO];exact Xh h hz _ (by omega)
   have e1:=KG (l:=l) (i:=p-2) (by omega);have e2:=KG (l:=l) (i:=p-1) (by omega);have e3:=KG (l:=l) (i:=p) hp;have e4:=Vk l (p-2);rw[e1,show p-2+1=p-1 by omega,e2,show p-1+1=p by omega,e3,Ck,Ck,Ck,h0] at e4;rw[e4]
   grind
theorem AI5 {l:List Int} (h:Ws l) (h2:2<=l.length) :
 ∃low:Int,0<=low/\low<Wp (l.length-2)/\nv l=(rd l ((l.length-1:Nat):Int)*18446744073709551616+rd l ((l.length-2:Nat):Int))*Wp (l.length-2)+low:=by
 refine⟨nv (l.take (l.length-2)),AS (En h _), ?_, ?_⟩
 · have:=MS (En h (l.length-2))
   rwa [AUJ,AUa (by omega)] at this
 · have e1:=KG (l:=l) (i:=l.length-2) (by omega)
   have e2:=KG (l:=l) (i:=l.length-1) (by omega);have e4:=Vk l (l.length-2);rw[e1,show l.length-2+1=l.length-1 by omega,e2,show l.length-1+1=l.length by omega,List.drop_length,Ck,Ck] at e4;rw[e4];show _+_*(_+18446744073709551616*(_+18446744073709551616*0))=_
   grind
theorem ko {d:List Int} (hd:Wl d) (hn:2<=d.length) (hv:9223372036854775808<=rd d ((d.length-1:Nat):Int)) {j:Nat} {r:List Int} (hr:Ws r) (hlen:j+d.length<r.length) (uz:r.length<=1000000000) (hlt:nv r<nv d*Wp (j+1)) :
 ∃(y:Int),(Ev (λk=>Gb.f k r ((j+d.length:Nat):Int) (rd d ((d.length-1:Nat):Int)) (rd d ((d.length-2:Nat):Int))) y) /\
  ((∃r':List Int,Ev (λk=>Cv.f k r d (j:Int) y) (false,r')/\r'.length=r.length/\Ws r'/\U y/\nv r=nv r'+Wp j*(y*nv d)/\nv r'<nv d*Wp j) \/
   (∃z r':List Int,Ev (λk=>Cv.f k r d (j:Int) y) (true,z)/\Ev (λk=>C7.f k z d (j:Int)) r'/\r'.length=r.length/\Ws r'/\1<=y/\U y/\nv r=nv r'+Wp j*((y-1)*nv d)/\nv r'<nv d*Wp j)):=by
 have hD:=MS hd.1;have hJ:=Ft j;have hR0:=AS hr;have hD0:=AS hd.1;have AGq:nv r<Wp (j+d.length+1):=by
  have h1:nv d*Wp (j+1)<=Wp d.length*Wp (j+1):=AUL (AUE hD) (AUE (Ft _));rw[<-UB,show d.length+(j+1)=j+d.length+1 by omega] at h1;omega
 obtain⟨low,hl0,hl1,hlR⟩:=ADx hr (p:=j+d.length) (by omega) hlen AGq;obtain⟨dl,zL,hd1,hdD⟩:=AI5 hd.1 hn;have hv1:=I5 hd.1 ((d.length-1:Nat):Int);have yB:=I5 hd.1 ((d.length-2:Nat):Int);have hK:=Ft (d.length-2);have AI6:Wp (j+d.length-2)=Wp j*Wp (d.length-2):=by rw[<-UB];congr 1;omega
 have ADw:rd r ((j+d.length:Nat):Int)<=rd d ((d.length-1:Nat):Int):=by
  have hx2:=(I5 hr ((j+d.length-1:Nat):Int)).1;have hx3:=(I5 hr ((j+d.length-2:Nat):Int)).1;have h1:(nv r)<(rd d ((d.length-1:Nat):Int)*18446744073709551616+rd d ((d.length-2:Nat):Int)+1)*Wp (d.length-2)*Wp (j+1):=by
   refine Int.lt_of_lt_of_le hlt (AUL ?_ (AUE (Ft _)));rw[hdD,AVt (_*_+_) 1,AVd];omega
  have h2:(rd d ((d.length-1:Nat):Int)*18446744073709551616+rd d ((d.length-2:Nat):Int)+1)*Wp (d.length-2)*Wp (j+1)=(rd d ((d.length-1:Nat):Int)*18446744073709551616+rd d ((d.length-2:Nat):Int)+1)*18446744073709551616*Wp (j+d.length-2):=by
   rw[AI6,Dl];grind
  have h3:((rd r ((j+d.length:Nat):Int)*18446744073709551616+rd r ((j+d.length-1:Nat):Int))*18446744073709551616+rd r ((j+d.length-2:Nat):Int))*Wp (j+d.length-2)<(rd d ((d.length-1:Nat):Int)*18446744073709551616+rd d ((d.length-2:Nat):Int)+1)*18446744073709551616*Wp (j+d.length-2):=by
   rw[<-h2];omega
  have h4:=AVx h3 (AUE (Ft _));have:=yB.2;clear h1 h2 h3 hlt hlR hdD hl1 hd1 AI6 AGq;generalize rd r ((j+d.length:Nat):Int)=a at *;generalize rd r ((j+d.length-1:Nat):Int)=b at *;generalize rd r ((j+d.length-2:Nat):Int)=c at *;generalize rd d ((d.length-1:Nat):Int)=e at *;generalize rd d ((d.length-2:Nat):Int)=f at *;omega
 obtain⟨y,g1,g2,g3,g4⟩:=tN hr uz (p:=j+d.length) (by omega) hlen hv1 yB (by omega) ADw;obtain⟨k1,k2⟩:=AP7 hJ hK (R:=nv r) (D:=nv d) (by rw[<-AI6];exact hlR) hl0 (by rw[<-AI6];exact hl1) hdD zL hd1 (by have:=yB.1;omega) g2.1 g2.2 g3 g4 (by
  have:nv d*Wp j*18446744073709551616=nv d*Wp (j+1):=by rw[Dl];grind
  rw[this];exact hlt)
 obtain⟨z,b,t1,t2,t3,t4,t5,t6,t7⟩:=xy hr hd g2 hlen uz;have zlt:=yC t3 (k:=j+d.length+1) (λp hp=>by rw[t7 p (by omega)];exact Xh hr AGq p hp);have z0:=AS t3;refine⟨y,g1, ?_⟩;have hyD:Wp j*(nv d*(y+1))=Wp j*(y*nv d)+nv d*Wp j:=by grind
 have ATM:Wp j*(nv d*(y-1))=Wp j*(y*nv d)-Wp j*nv d:=by grind
 have ATg:nv d*Wp j=Wp j*nv d:=AUQ _ _;rcases(show b=0\/b=1 by omega) with hb | hb
 · subst hb
   rw[AVN,AVM] at t6;exact .inl ⟨z,t1,t2,t3,g2,by omega,by omega⟩
 · subst hb
   obtain⟨r',o,s1,s2,s3,s4,s5,s6,s7⟩:=yA t3 hd (by rw[t2];exact hlen) (by omega);have rlt:=yC s3 (k:=j+d.length+1) (λp hp=>by rw[s7 p (by omega),t7 p (by omega)];exact Xh hr AGq p hp);have r0:=AS s3;have ho:o=1:=by
    rcases(show o=0\/o=1 by omega) with h | h
    · subst h;omega
    · exact h
   subst ho;have hy1:1<=y:=by
    rcases(show y=0\/1<=y by have:=g2.1;omega) with h | h
    · exfalso
      have:Wp j*(y*nv d)=0:=(by rw[h,AVO,AVN]);omega
    · exact h
   have AT7:Wp j*((y-1)*nv d)=Wp j*(y*nv d)-Wp j*nv d:=(by rw[<-ATM,AUQ (nv d)]);exact .inr ⟨z,r',t1,s1,by omega,s3,hy1,g2,by omega,by omega⟩
theorem tP {d:List Int} (hd:Wl d) (hn:2<=d.length) (hv:9223372036854775808<=rd d ((d.length-1:Nat):Int)) {s:Nat} (hs:s<=63) {A:Int} (m:Nat) : ∀(r Q:List Int),Ws r->m+d.length<=r.length->r.length<=1000000000->Ws Q->m+Q.length<=1000000000->nv r<nv d*Wp m->A=nv r+Wp m*(nv Q*nv d)-> ∀i:Int,i=(m:Int)-1 ->
 Ev (λk=>B5.l1 k (s:Int) d r (d.length:Int) (List.replicate m 0++Q) i) (dg (A/nv d),dg (A%nv d/2^s)):=by
 induction m with
 | zero =>
   intro r Q hr hl uz hQ hQl hlt he i hi;have r0:=AS hr;rw[Oy,AUk] at hlt;rw[Oy,AVd] at he;have hq:A/nv d=nv Q:=(by rw[he,AUQ,AUy _ _ (by omega),AUo r0 hlt];omega);have hm:A%nv d=nv r:=(by rw[he,AUQ,AU6,AUp r0 hlt]);have S:=ox (a:=r) ⟨hr,uz⟩ (n:=(s:Int)) (by omega);rw[AUD] at S;refine Ev.step (λk=>B5.l1.eq_2 ..) ?_;rw[hq,hm];exact Ev.AM (by omega) (Ev.bind (DL (l:=Q) ⟨hQ,by omega⟩) (Ev.bind S (Ev.same rfl)))
 | succ j ih =>
   intro r Q hr hl uz hQ hQl hlt he i hi;have ei:i=(j:Int):=(by omega);subst ei;have HE:=Hd.mk he;have HL:=Hd.mk hlt;have HV:=Hd.mk hv;clear he hlt hv;have e1:wrap64 ((d.length:Int)-1)=((d.length-1:Nat):Int):=(by rw[AG (by omega) (by omega)];omega);have e2:wrap64 ((d.length:Int)-2)=((d.length-2:Nat):Int):=(by rw[AG (by omega) (by omega)];omega);have e3:wrap64 ((j:Int)+(d.length:Int))=((j+d.length:Nat):Int):=(by rw[AG (by omega) (by omega)];omega);have e4:wrap64 ((j:Int)-1)=(j:Int)-1:=AG (by omega) (by omega);have er:List.replicate (j+1) 0++Q=List.replicate j 0++(0:Int)::Q:=(by rw[AWx,AVQ];rfl);have es : ∀v,(List.replicate j 0++(0:Int)::Q).set (j:Int).toNat v=List.replicate j 0++v::Q:=λv=>by
    have:=ZL (List.replicate j 0) 0 v Q;rw[AVS] at this;rw[AUD];exact this
   have el:(List.replicate j 0++(0:Int)::Q).length=j+1+Q.length:=(by rw[AUR,AVS,AUu];omega);obtain⟨y,g,h⟩:=ko hd hn HV.out hr (j:=j) (by omega) uz HL.out;refine Ev.step (λk=>B5.l1.eq_2 ..) ?_;rw[e1,e2,e3,e4,er];refine Ev.AK (by omega) (Ev.AK (by omega) (Ev.AK (by omega) (Ev.AK (by omega) (Ev.AK (by omega) (Ev.bind g ?_)))));have hval : ∀(q v:Int),nv r=v+Wp j*(q*nv d)->A=v+Wp j*(nv (q::Q)*nv d):=by
    intro q v yB;rw[HE.out,yB,Ck,Dl]
    grind
   rcases h with⟨r',t1,t2,t3,t4,t5,t6⟩ | ⟨z,r',t1,b1,t2,t3,t0,t4,t5,t6⟩
   · have h2:=ih r' (y::Q) t3 (by omega) (by omega) (Ht.2 ⟨t4,hQ⟩) (by rw[AUu];omega) t6 (hval _ _ t5) _ rfl
     refine Ev.bind t1 (Ev.AM (by simp) (Ev.AK (by omega) (Ev.AK (by rw[el];omega) ?_)));rw[es];exact h2
   · have h2:=ih r' ((y-1)::Q) t3 (by omega) (by omega) (Ht.2 ⟨⟨by omega,by have:=t4.2;omega⟩,hQ⟩) (by rw[AUu];omega) t6 (hval _ _ t5) _ rfl
     refine Ev.bind t1 (Ev.AK rfl (Ev.bind b1 (Ev.AK (by omega) (Ev.AK (by rw[el];omega) ?_))));rw[es,DC (by omega) (by have:=t4.2;omega)];exact h2
theorem ALf (l:List Int) (n:Nat):nv (l++List.replicate n 0)=nv l:=by rw[kW,UC];omega
theorem tQ {a d:List Int} (hla:a.length<=900000000) (hd:Wl d) (hn:2<=d.length) (hda:d.length<=a.length) (hv:9223372036854775808<=rd d ((d.length-1:Nat):Int)) {s:Nat} (hs:s<=63) (e:Nat) : ∀r:List Int,Ws r->r.length+e=a.length+1->nv r<nv d*Wp (a.length+1-d.length) ->
 Ev (λk=>B5.l0 k a (s:Int) d r) (dg (nv r/nv d),dg (nv r%nv d/2^s)):=by
 induction e with
 | zero =>
   intro r hr hl hlt;have HL:=Hd.mk hlt;have HV:=Hd.mk hv;clear hlt hv;have e1:wrap64 ((a.length:Int)+1)=((a.length+1:Nat):Int):=(by rw[AG (by omega) (by omega)];omega);have e2:wrap64 ((r.length:Int)-(d.length:Int))=((a.length+1-d.length:Nat):Int):=(by rw[AG (by omega) (by omega)];omega);have e3:wrap64 (((List.replicate (a.length+1-d.length) (0:Int)).length:Int)-1)=((a.length+1-d.length:Nat):Int)-1:=(by rw[AVS,AG (by omega) (by omega)]);have h:=tP hd hn HV.out hs (A:=nv r) (a.length+1-d.length) r [] hr (by omega) (by omega) Jr (by simp;omega) HL.out (by simp[nv]) _ rfl;rw[AVW] at h;refine Ev.step (λk=>B5.l0.eq_2 ..) ?_;rw[e1,e2,AUD];refine Ev.AM (by omega) (Ev.AK (by omega) (Ev.AK (by omega) (Ev.AP rfl ?_)));rw[e3];exact h
 | succ e ih =>
   intro r hr hl hlt;have e1:wrap64 ((a.length:Int)+1)=((a.length+1:Nat):Int):=(by rw[AG (by omega) (by omega)];omega);have hp:nv (r++ [0])=nv r:=ALf r 1;have h:=ih (r++ [0]) (bS.2 ⟨hr,Gf ⟨by omega,by omega⟩⟩) (by rw[AUR];show r.length+1+e=_;omega) (by rw[hp];exact hlt);rw[hp] at h;clear hlt hp ih;refine Ev.step (λk=>B5.l0.eq_2 ..) ?_;rw[e1];exact Ev.AK (by omega) (Ev.AK (by omega) h)
theorem yD {A B:Int} (hB:0<B) (hAB:B<=A) (hn:2<=(dg B).length) (hA:bl A<=50000000000):Ev (λk=>B5.f k (dg A) (dg B)) (dg (A/B),dg (A%B)):=by
 have hBA:=Bq hAB;have wA:=Av (n:=A) (by omega);have wB:=Av (n:=B) (by omega);have kA:=AN A;have kB:=AN B;have vA:=AR (n:=A) (by omega);have vB:=AR (n:=B) (by omega);have bp:=C9 hB;have b1:=F1 B;have b2:=Sp hB;have b3:=QO (n:=B) (by omega);have b4:=bT hB;have a1:=QO (n:=A) (by omega);obtain⟨n,hN⟩ : ∃n,n=(dg B).length:=⟨_,rfl⟩;obtain⟨la,hla⟩ : ∃la,la=(dg A).length:=⟨_,rfl⟩;rw[<-hN] at b3 b4 hn;rw[<-hla] at a1;have AT8:bl B<=64*n:=by rw[Hr] at b3;have:=BF b3;omega
 have AT9:64*(n:Int)<=bl B+63:=by omega
 have vP:n<=la:=by
  rcases AUq la n with h | h
  · exfalso
    have:=kV (show la<=n-1 by omega);omega
  · exact h
 obtain⟨s,hs⟩ : ∃s:Nat,(s:Int)=64*n-bl B:=⟨(64*(n:Int)-bl B).toNat,by omega⟩;have ALb:s<=63:=by omega
 have ps:=pow_pos s;have es:wrap64 (wrap64 (64*((dg B).length:Int))-bl B)=(s:Int):=by
  rw[<-hN,AG (n:=64*(n:Int)) (by omega) (by omega),AG (by omega) (by omega)];omega
 have ES:=Hd.mk es;clear es;have hD1:B*2^s<Wp n:=by
  have h:=AUw b1 ps;rw[<-AUZ,show(bl B).toNat+s=64*n by omega,<-Hr] at h;exact h
 have hD2:9223372036854775808*Wp (n-1)<=B*2^s:=by
  have h:=AUL b2 (AUE ps);rw[<-AUZ,show(bl B-1).toNat+s=63+64*(n-1) by omega,AUZ,<-Hr] at h;exact h
 have pn:=Ft (n-1);have AHN:(dg (B*2^s)).length=n:=by
  have h1:=Nt hD1;have h2:=pF (n:=B*2^s) (m:=n-1) (by omega);omega
 have hDp:0<B*2^s:=AU3 hB ps;have vD:=AR (AUE hDp);have hAp:0<=A*2^s:=AUM (by omega) (AUE ps);have vAs:=AR hAp;have hA1:A*2^s<Wp la*2^s:=AUw a1 ps;have h2s:(2:Int)^s<=2^63:=Ar ALb;have hA2:Wp la*2^s<=Wp la*2^63:=AUb h2s (AUE (Ft la));have ATh:(dg (A*2^s)).length<=la+1:=by
  refine Nt ?_;rw[Dl];have:=Ft la;omega
 have ATN:Wp la=Wp (n-1)*Wp (la+1-n):=by rw[<-UB];congr 1;omega
 have hlt:nv (dg (A*2^s))<nv (dg (B*2^s))*Wp (la+1-n):=by
  rw[vD,vAs];have h:=AUL hD2 (AUE (Ft (la+1-n)));rw[AUl,<-ATN] at h;omega
 have ADw:9223372036854775808<=rd (dg (B*2^s)) (((dg (B*2^s)).length-1:Nat):Int):=by
  have h1:=B4 (l:=dg (B*2^s)) (i:=n-1) (by omega);rw[AUS (by omega),vD] at h1;have h2:=MS (En (Sl (B*2^s)) (n-1));rw[AUJ,AHN,AUa (by omega)] at h2;rw[AHN];have h3:9223372036854775808*Wp (n-1)<(rd (dg (B*2^s)) ((n-1:Nat):Int)+1)*Wp (n-1):=by
   rw[AVt,AVd,AUQ (rd _ _)];omega
  have:=AVx h3 (AUE pn);omega
 have hB':=Hj wB;rw[vB] at hB';have hS1:=Vf wB (by omega) (s:Int);have hS2:=Vf wA (by omega) (s:Int);rw[T3 (by omega) (by omega),AUD,vB] at hS1;rw[T3 (by omega) (by omega),AUD,vA] at hS2;have main:=tQ (a:=dg A) (d:=dg (B*2^s)) (by omega) ⟨Sl _,by omega⟩ (by omega) (by omega) ADw ALb (la+1-(dg (A*2^s)).length) (dg (A*2^s)) (Sl _) (by omega) (by rw[AHN,<-hla];exact hlt);rw[vD,vAs,AWz _ _ ps,AUQ A,AUQ B,AVu _ _ ps,AWZ _ (by omega),AUQ _ A,AUQ _ B] at main;unfold B5.f;refine Ev.bind hB' ?_;rw[ES.out];exact Ev.bind hS1 (Ev.bind hS2 main)
theorem RF {a b:List Int} (ha:Wl a) (hb:Wl b) (hla:a.length<=700000000) :
 Ev (λk=>H6.f k a b) (if nv b=0 then([],[],false) else(dg (nv a/nv b),dg (nv a%nv b),true)):=by
 have na:=AS ha.1;have nb:=AS hb.1;have ba:=GG ha.1;refine Ev.bind (DL ha) (Ev.bind (DL hb) ?_);by_cases h0:nv b=0
 · rw[if_pos h0,h0]
   exact Ev.AK rfl (Ev.same rfl)
 · rw[if_neg h0]
   have hl:((dg (nv b)).length:Int)≠0:=λh=>h0 ((C1 nb).1 (by omega))
   have wa:=Av (n:=nv a) (by omega);have wb:Wl (dg (nv b)):=⟨Sl _,by have:=ADu hb.1;have:=hb.2;omega⟩;have C:=Vc wa wb;rw[AR na,AR nb] at C;refine Ev.AM hl (Ev.bind C ?_);by_cases h1:nv a<nv b
   · rw[iF h1,AUo na h1,AUp na h1]
     exact Ev.AK (by omega) (Ev.same rfl)
   · have hc : ¬Gt (nv a) (nv b)<0:=by unfold Gt;rw[if_neg h1];split<;>omega
     refine Ev.AM hc ?_;by_cases h2:((dg (nv b)).length:Int)=1
     · have hb1:nv b<18446744073709551616:=by
        have:=QO nb;rw[show(dg (nv b)).length=1 by omega,Dl,Oy] at this;omega
       have e:dg (nv b)= [nv b]:=by
        rw[N6 (by omega),show nv b/18446744073709551616=0 by omega,IZ,show nv b%18446744073709551616=nv b by omega]
       have hq:=dK wa (d:=nv b) (by omega) hb1;rw[AR na] at hq;have hm0:=AUe (nv a) h0;have hm1:=AUd (nv a) (show 0<nv b by omega);have er:rd (dg (nv b)) 0=nv b:=(by rw[e];rfl);refine Ev.AK h2 (Ev.AK (by omega) ?_);rw[er];exact Ev.bind hq (Ev.bind (Tu (x:=nv a%nv b) ⟨hm0,by omega⟩) (Ev.same rfl))
     · exact Ev.AM h2 (Ev.bind (yD (by omega) (by omega) (by omega) (by omega)) (Ev.same rfl))
def KK (A r:Int):Prop:=0<=r/\r*r<=A/\A<(r+1)*(r+1)
theorem iC {A:Int} (h:0<=A) : ∃r,KK A r:=by
 obtain⟨n,rfl⟩:=AUP h;induction n with
 | zero=>exact⟨0,by omega,by omega,by omega⟩
 | succ n ih =>
   obtain⟨r,h1,h2,h3⟩:=ih (by omega);by_cases h4:(r+1)*(r+1)<=((n+1:Nat):Int)
   · refine⟨r+1,by omega,h4, ?_⟩
     have:(r+1+1)*(r+1+1)=(r+1)*(r+1)+2*r+3:=(by grind);omega
   · exact⟨r,h1,by omega,by omega⟩
theorem AKC {a b:Int} (ha:0<=a) (h:a<=b):a*a<=b*b:=AWl h h ha (by omega)
theorem AGf {a b:Int} (hb:0<=b) (h:a*a<=b*b):a<=b:=by
 rcases AU1 b a with h1 | h1
 · have:=AKC (a:=b+1) (b:=a) (by omega) (by omega)
   have e:(b+1)*(b+1)=b*b+2*b+1:=(by grind);omega
 · exact h1
theorem Fq {a b:Int} (hb:0<=b) (h:a*a<b*b):a<b:=by
 rcases AU1 a b with h1 | h1
 · exact h1
 · have:=AKC hb h1
   omega
theorem xA {A r s:Int} (h:KK A r) (h':KK A s):r=s:=by
 obtain⟨a0,a1,a2⟩:=h;obtain⟨b0,b1,b2⟩:=h';have:=Fq (a:=r) (b:=s+1) (by omega) (by omega);have:=Fq (a:=s) (b:=r+1) (by omega) (by omega);omega
def fx (b:Int):Int:=b/4503599627370496%2048
def fr (b:Int):Int:=b%4503599627370496
def fs (b:Int):Bool:=decide (b>=9223372036854775808)
def Jq (neg:Bool) (b:Int):Int:=if neg then b+9223372036854775808 else b
def fk (b:Int):Int:=if fx b=2047 then(if fr b=0 then 3 else 4) else if fx b=0 then(if fr b=0 then 0 else 1) else 2
def pm (b:Int):Int:=if fx b=0 then fr b else fr b+4503599627370496
def pe (b:Int):Int:=if fx b=0 then -1074 else fx b-1075
def YC:Int:=9218868437227405312
def gB:Int:=9221120237041090560
theorem AI7 {a b c:Int} (h:0<c):(a*c>b*c↔a>b)/\(a*c=b*c↔a=b):=by
 constructor
 · constructor
   · intro h1
     rcases AU1 b a with h2 | h2
     · exact h2
     · have:=AUL h2 (AUE h)
       omega
   · intro h1
     exact AUw h1 h
 · exact⟨λh1=>AVn (by omega) h1,λh1=>by rw[h1]⟩
theorem IM (M:Int) {G D:Int} (hG:0<G):M%(G*D)=G*(M/G%D)+M%G:=by
 rw[AXg M (G*D),<-AUt (by omega),AXg (M/G) D,AXg M G]
 grind
def Oq (M:Int) (d:Nat):Int:=if 2*(M%2^d)>2^d\/(2*(M%2^d)=2^d/\M/2^d%2=1) then M/2^d+1 else M/2^d
theorem MP (M:Int):Oq M 0=M:=by
 unfold Oq;rw[AUW,AU9,AVs,if_neg (by omega)]
theorem AGt (M:Int) (d:Nat):M/2^d<=Oq M d/\Oq M d<=M/2^d+1:=by
 unfold Oq;split<;>omega
theorem bJ {M:Int} {d:Nat} (h0:0<=M) (h:2*M<2^d):Oq M d=0:=by
 unfold Oq;rw[AUp h0 (by omega),AUo h0 (by omega),if_neg (by omega)]
theorem ADy {M:Int} {d:Nat} (h:M%2^d=0):Oq M d=M/2^d:=by
 have:=pow_pos d;unfold Oq;rw[h,if_neg (by omega)]
theorem pJ (M:Int) (d s:Nat):Oq (M*2^s) (d+s)=Oq M d:=by
 have hs:=pow_pos s;have e1:M*2^s/2^(d+s)=M/2^d:=by
  rw[AUZ,AUQ M,AUQ (2^d),Int.mul_ediv_mul_of_pos _ _ hs]
 have e2:M*2^s%2^(d+s)=M%2^d*2^s:=by
  rw[AUZ,AUQ M,AUQ (2^d),AVu _ _ hs,AUQ]
 have e3:=AI7 (a:=2*(M%2^d)) (b:=2^d) hs;unfold Oq;rw[e1,e2,<-AUl,AUZ];simp only[e3.1,e3.2]
theorem XX {x:Int} {n:Nat} (h:2^n<=x):(n:Int)+1<=bl x:=by
 have:=pow_pos n;have a1:=F1 x;have:n<(bl x).toNat:=Vh (by omega);omega
theorem Po {m:Int} (h:0<m) (s:Nat):bl (m*2^s)=bl m+s:=by
 have hp:=pow_pos s;have h1:2^s<=m*2^s:=by
  have:=AUL (show 1<=m by omega) (AUE hp);omega
 rw[Tz h1,AW7 _ (by omega)]
def un (m e:Int):Int:=max (bl m+e-53) (-1074)
theorem ACl (m e:Int) : -1074<=un m e:=by unfold un;omega
theorem yE {m:Int} (h:0<m) (e:Int) (s:Nat):un (m*2^s) (e-s)=un m e:=by
 unfold un;rw[Po h,show bl m+(s:Int)+(e-s)-53=bl m+e-53 by omega]
def ru (m e u:Int):Int:=Oq (m*2^(e-u).toNat) (u-e).toNat
theorem AHO (m e u:Int) (s:Nat):ru (m*2^s) (e-s) u=ru m e u:=by
 unfold ru;rcases AU1 u e with h | h
 · obtain⟨t,ht⟩ : ∃t:Nat,e-u=t:=⟨(e-u).toNat,by omega⟩
   rw[show(u-e).toNat=0 by omega,MP,ht,AUD];rcases AUq t s with h2 | h2
   · rw[show(e-s-u).toNat=0 by omega,show(u-(e-s)).toNat=0+(s-t) by omega,AUW,AUk]
     have:m*2^s=m*2^t*2^(s-t):=(by rw[AUl,<-AUZ,show t+(s-t)=s by omega]);rw[this,pJ,MP]
   · rw[show(e-s-u).toNat=t-s by omega,show(u-(e-s)).toNat=0 by omega,MP,AUl,<-AUZ,show s+(t-s)=t by omega]
 · rw[show(e-u).toNat=0 by omega,show(e-s-u).toNat=0 by omega,AUW,AUk,AUk,show(u-(e-s)).toNat=(u-e).toNat+s by omega,pJ]
def Rd (m e:Int):Int:=if m<=0 then 0 else if un m e>971 then YC else(un m e+1074)*4503599627370496+ru m e (un m e)
theorem Ve (e:Int):Rd 0 e=0:=by unfold Rd;rw[if_pos (by omega)]
theorem Iy {m:Int} (h:0<m) (e:Int) (s:Nat):Rd (m*2^s) (e-s)=Rd m e:=by
 have:0<m*2^s:=AU3 h (pow_pos s);unfold Rd;rw[if_neg (show¬m*2^s<=0 by omega),if_neg (show¬m<=0 by omega),yE h,AHO]
theorem ADz {X:Int} {g:Nat} (h:1<=X/2^g):2^g<=X:=by
 rw[AU8 (pow_pos g)] at h;omega
theorem pK {X:Int} {g:Nat} (h:2^g<=X):1<=X/2^g:=by
 rw[AU8 (pow_pos g)];omega
theorem AI8 {X Y c:Int} {g:Nat} (hX:0<X) (hY:0<Y) (hq:X/2^g=Y/2^g) (hu:c+g+1<=un X c):un X c=un Y c:=by
 have hp:=pow_pos g;unfold un at *;rcases AU1 X (2^g) with h | h
 · have e1:X/2^g=0:=AUo (by omega) h
   have h2:Y<2^g:=by
    rcases AU1 Y (2^g) with h' | h'
    · exact h'
    · have:=pK h'
      omega
   have b1:=BF h;have b2:=BF h2;omega
 · have h3:=pK h
   rw[hq] at h3;rw[Tz h,Tz (ADz h3),hq]
theorem yF {G κ H x:Int} (hG:0<G) (h0:0<=x) (h1:x<G):(2*(G*κ+x)>G*(2*H)↔(κ>H\/(κ=H/\x≠0)))/\(2*(G*κ+x)=G*(2*H)↔(κ=H/\x=0)):=by
 rw[show G*(2*H)=2*(G*H) from Int.mul_left_comm ..];rcases AV3 κ H with h | h | h
 · have:=AUb (show κ+1<=H by omega) (AUE hG)
   rw[AVp,AUk] at this;omega
 · subst h
   omega
 · have:=AUb (show H+1<=κ by omega) (AUE hG)
   rw[AVp,AUk] at this;omega
theorem AHP {X Y:Int} {d g:Nat} (hgd:g+1<=d) (hq:X/2^g=Y/2^g) (hz:X%2^g=0↔Y%2^g=0):Oq X d=Oq Y d:=by
 obtain⟨j,rfl⟩ : ∃j,d=g+(j+1):=⟨d-g-1,by omega⟩;have hG:=pow_pos g;have e:(2:Int)^(g+(j+1))=2^g*(2*2^j):=by rw[AUZ,AUY,AUQ (2^j)]
 unfold Oq;have ex:X/(2^g*(2*2^j))=X/2^g/(2*2^j):=(AUt (by omega)).symm;have ey:Y/(2^g*(2*2^j))=Y/2^g/(2*2^j):=(AUt (by omega)).symm;rw[e,IM X hG,IM Y hG,ex,ey,hq];have hx:=yF (κ:=Y/2^g%(2*2^j)) (H:=2^j) hG (AUe X (show(2:Int)^g≠0 by omega)) (AUd X hG);have hy:=yF (κ:=Y/2^g%(2*2^j)) (H:=2^j) hG (AUe Y (show(2:Int)^g≠0 by omega)) (AUd Y hG);simp only[hx.1,hx.2,hy.1,hy.2,ne_eq,hz]
theorem RD {X Y c:Int} {g:Nat} (hX:0<X) (hY:0<Y) (hq:X/2^g=Y/2^g) (hz:X%2^g=0↔Y%2^g=0) (hu:c+g+1<=un X c):Rd X c=Rd Y c:=by
 have e:=AI8 hX hY hq hu;unfold Rd;rw[if_neg (show¬X<=0 by omega),if_neg (show¬Y<=0 by omega),<-e];split
 · rfl
 · congr 1
   unfold ru;rw[show(c-un X c).toNat=0 by omega,AUW,AUk,AUk];exact AHP (g:=g) (by omega) hq hz
def st (M:Int) (s:Nat):Int:=if M%2^s=0 then M/2^s else M/2^s/2*2+1
theorem AIb (M:Int):st M 0=M:=by unfold st;rw[AUW,AVs,if_pos rfl,AU9]
theorem ow {M:Int} (h:0<=M) (s:Nat):0<=st M s:=by
 have:=AUX h (AUE (pow_pos s));unfold st;split<;>omega
theorem ALg {M:Int} (h:0<M) (s:Nat):0<st M s:=by
 have:=AUX (AUE h) (AUE (pow_pos s));have hd:=AUV M (2^s);unfold st;split
 · rename_i hz
   rcases(show M/2^s=0\/0<M/2^s by omega) with h1 | h1
   · rw[h1,hz,AVN] at hd
     omega
   · exact h1
 · omega
theorem ACh (M:Int) (s:Nat):(st M s*2^s)/2^(s+1)=M/2^(s+1)/\((st M s*2^s)%2^(s+1)=0↔M%2^(s+1)=0):=by
 have hG:=pow_pos s;have hr:=AUe M (show(2:Int)^s≠0 by omega);have e1:st M s*2^s/2^s=st M s:=AW7 _ (by omega);have e2:st M s*2^s%2^s=0:=AXN ..;rw[AUY,IM _ hG,IM M hG,<-AUt (by omega),<-AUt (by omega),e1,e2];have hk : ∀k:Int,k=0\/k=1->(2^s*k=0↔k=0):=by
  intro k hk;rcases hk with rfl | rfl
  · simp
  · rw[AUk];omega
 have k1:=hk (st M s%2) (by omega);have k2:=hk (M/2^s%2) (by omega);have p2:0<=2^s*(M/2^s%2):=AUM (by omega) (by omega);unfold st at *;split
 · rename_i hz
   rw[if_pos hz] at k1;constructor<;>omega
 · rename_i hz
   rw[if_neg hz] at k1;constructor<;>omega
theorem APn {M e:Int} {s:Nat} (hM:0<M) (hu:e+s+2<=un M e):Rd (st M s) (e+s)=Rd M e:=by
 have h1:=ALg hM s;have h2:=ACh M s;have h3:=Iy h1 (e+s) s;rw[show e+(s:Int)-s=e by omega] at h3;rw[<-h3];exact(RD (g:=s+1) hM (AU3 h1 (pow_pos s)) h2.1.symm h2.2.symm (by omega)).symm
theorem ADg {m e:Int} (h:0<m):0<=m*2^(e-un m e).toNat/2^(un m e-e).toNat/\m*2^(e-un m e).toNat/2^(un m e-e).toNat<9007199254740992/\(un m e= -1074\/4503599627370496<=m*2^(e-un m e).toNat/2^(un m e-e).toNat):=by
 have hu:un m e=max (bl m+e-53) (-1074):=rfl;have hb:=Po h (e-un m e).toNat;have hM:0<m*2^(e-un m e).toNat:=AU3 h (pow_pos _);have a1:=F1 (m*2^(e-un m e).toNat);have a2:=Sp hM;have a3:=C9 hM;have hp:=pow_pos (un m e-e).toNat;generalize un m e=u at *;generalize m*2^(e-u).toNat=M at *;have q0:0<=M/2^(u-e).toNat:=AUX (by omega) (by omega);have q1:M/2^(u-e).toNat<9007199254740992:=by
  rw[AUg hp,show(9007199254740992:Int)=2^53 from rfl,<-AUZ];have:=Ar (a:=(bl M).toNat) (b:=53+(u-e).toNat) (by omega);omega
 refine⟨q0,q1, ?_⟩;rcases(show u= -1074\/u=bl m+e-53 by omega) with h1 | h1
 · exact .inl h1
 · refine .inr ?_
   rw[AU8 hp,show(4503599627370496:Int)=2^52 from rfl,<-AUZ];have:=Ar (a:=52+(u-e).toNat) (b:=(bl M-1).toNat) (by omega);omega
theorem Y1 {m e:Int} (h:0<m):0<=ru m e (un m e)/\ru m e (un m e)<=9007199254740992/\(un m e= -1074\/4503599627370496<=ru m e (un m e)):=by
 have q:=ADg (e:=e) h;have r:=AGt (m*2^(e-un m e).toNat) (un m e-e).toNat;unfold ru;omega
theorem N5 (m e:Int):0<=Rd m e/\Rd m e<=YC:=by
 unfold Rd YC;split
 · omega
 · split
   · omega
   · have:=Y1 (m:=m) (e:=e) (by omega)
     have:=ACl m e;omega
theorem AAj {m e:Int} (h:0<m) (he:1024<=e):Rd m e=YC:=by
 have:=C9 h;unfold Rd;rw[if_neg (by omega),if_pos (by unfold un;omega)]
theorem Y4 {m e:Int} (h:0<=m) (he:bl m+e < -1074):Rd m e=0:=by
 rcases(show m=0\/0<m by omega) with rfl | h1
 · exact Ve e
 · have hb:=C9 h1
   have hu:un m e= -1074:=(by unfold un;omega);have hl:=F1 m;unfold Rd ru;rw[hu,if_neg (by omega),if_neg (by omega),show(e - -1074).toNat=0 by omega,AUW,AUk];obtain⟨j,hj⟩ : ∃j:Nat,(-1074-e).toNat=j+1:=⟨(-1074-e).toNat-1,by omega⟩;have:=Ar (a:=(bl m).toNat) (b:=j) (by omega);rw[hj,bJ h (by rw[AUY];omega)];rfl
def Mk (neg:Bool) (m e:Int):Int × Bool :=
 if m=0 then(Jq neg 0,true) else
  if un m e>971\/m*2^(e-un m e).toNat%2^(un m e-e).toNat≠0 then(0,false) else(Jq neg (Rd m e),true)
theorem Yw (neg:Bool) (e:Int):Mk neg 0 e=(Jq neg 0,true):=by unfold Mk;rw[if_pos rfl]
theorem So (neg:Bool) {m e:Int} (h:m≠0) (hc:un m e>971\/m*2^(e-un m e).toNat%2^(un m e-e).toNat≠0):Mk neg m e=(0,false):=by
 unfold Mk;rw[if_neg h,if_pos hc]
theorem Tv (neg:Bool) {m e:Int} (h:m≠0) (h1:un m e<=971) (h2:m*2^(e-un m e).toNat%2^(un m e-e).toNat=0):Mk neg m e=(Jq neg (Rd m e),true):=by
 unfold Mk;rw[if_neg h,if_neg (by rw[not_or];exact⟨by omega,λk=>k h2⟩)]
theorem Tw {m e:Int} (h:0<m) (h1:un m e<=971) (h2:m*2^(e-un m e).toNat%2^(un m e-e).toNat=0):Rd m e=(un m e+1074)*4503599627370496+m*2^(e-un m e).toNat/2^(un m e-e).toNat:=by
 unfold Rd ru;rw[if_neg (by omega),if_neg (by omega),ADy h2]
theorem AGc {m e:Int} {n:Nat} (h1:2^n<=m) (h2:m<2^(n+1)):un m e=max ((n:Int)+e-52) (-1074):=by
 unfold un;rw[AKA h1 h2]
 congr 1
 omega
theorem iB {w u:Int} (h0:0<w) (h1:w<=9007199254740992) (hu0 : -1074<=u) (wj:u<=971) (hw:u= -1074\/4503599627370496<=w) :
 (w<9007199254740992->un w u=u)/\(w=9007199254740992->un w u=u+1)/\(un w u<=971->w*2^(u-un w u).toNat%2^(un w u-u).toNat=0)/\Rd w u=(u+1074)*4503599627370496+w:=by
 have key:(w<9007199254740992->un w u=u)/\(w=9007199254740992->un w u=u+1):=by
  constructor
  · intro h
    rcases AU1 w 4503599627370496 with h2 | h2
    · have:=BF (x:=w) (n:=52) h2
      unfold un;omega
    · rw[AGc (n:=52) h2 h]
      omega
  · intro h
    rw[AGc (n:=53) (by omega) (by omega)];omega
 refine⟨key.1,key.2, ?_⟩;rcases(show w<9007199254740992\/w=9007199254740992 by omega) with h | h
 · have e:=key.1 h
   rw[e];have e2:w*2^(u-u).toNat%2^(u-u).toNat=0:=by
    rw[show(u-u).toNat=0 by omega,AUW,AVs]
   refine⟨λ_=>e2, ?_⟩;rw[Tw h0 (by omega) (by rw[e];exact e2),e,show(u-u).toNat=0 by omega,AUW,AUk,AU9]
 · have e:=key.2 h
   rw[e];have e2:w*2^(u-(u+1)).toNat%2^(u+1-u).toNat=0:=by
    rw[show(u-(u+1)).toNat=0 by omega,show(u+1-u).toNat=1 by omega,h];rfl
   refine⟨λ_=>e2, ?_⟩;rcases(show u=971\/u+1<=971 by omega) with h3 | h3
   · unfold Rd YC
     rw[if_neg (by omega),if_pos (by omega)];omega
   · rw[Tw h0 (by omega) (by rw[e];exact e2),e,show(u-(u+1)).toNat=0 by omega,show(u+1-u).toNat=1 by omega,h]
     simp only[AUW,AUk,AVh];omega
theorem ACj {neg:Bool} {w u:Int} (h0:0<=w) (h1:w<=9007199254740992) (hu0 : -1074<=u) (wj:u<=971) (hw:u= -1074\/4503599627370496<=w) :
 (if(Mk neg w u).2 then(Mk neg w u).1 else Jq neg YC)=Jq neg ((u+1074)*4503599627370496+w):=by
 rcases(show w=0\/0<w by omega) with rfl | h
 · rw[Yw]
   obtain rfl:u= -1074:=by omega
   rfl
 · obtain⟨k1,k2,k3,k4⟩:=iB h h1 hu0 wj hw
   by_cases hc:un w u>971
   · rw[So neg (by omega) (.inl hc)]
     have hw2:w=9007199254740992:=(by omega);have hu2:u=971:=(by omega);rw[hw2,hu2];rfl
   · rw[Tv neg (by omega) (by omega) (k3 (by omega)),k4]
     rfl
theorem wk (neg:Bool) {m:Int} (h:0<m) (e:Int):Mk neg (m*2) (e-1)=Mk neg m e:=by
 have hu:=yE h e 1;have hR:=Iy h e 1;rw[AVh] at hu hR;rw[show e-((1:Nat):Int)=e-1 from rfl] at hu hR;have:m*2*2^(e-1-un m e).toNat%2^(un m e-(e-1)).toNat=0↔m*2^(e-un m e).toNat%2^(un m e-e).toNat=0:=by
  generalize un m e=u;rcases AU1 u e with h1 | h1
  · rw[show(u-e).toNat=0 by omega,show(u-(e-1)).toNat=0 by omega,AUW,AVs,AVs]
  · rw[show(e-u).toNat=0 by omega,show(e-1-u).toNat=0 by omega,show(u-(e-1)).toNat=(u-e).toNat+1 by omega,AUY,AUW,AUk,AUk,AUQ m,AUQ (2^_),AVu _ _ (by omega)]
    omega
 by_cases hc:un m e>971\/m*2^(e-un m e).toNat%2^(un m e-e).toNat≠0
 · rw[So neg (by omega) hc,So neg (by omega) (by rw[hu];rcases hc with hc | hc;exact .inl hc;exact .inr (λk=>hc (this.1 k)))]
 · rw[not_or] at hc
   have h2:m*2^(e-un m e).toNat%2^(un m e-e).toNat=0:=Decidable.byContradiction hc.2;rw[Tv neg (by omega) (by omega) h2,Tv neg (by omega) (by omega) (by rw[hu];exact this.2 h2),hR]
theorem Iz {b:Int} :0<=fx b/\fx b<2048:=by unfold fx;omega
theorem IA {b:Int} :0<=fr b/\fr b<4503599627370496:=by unfold fr;omega
theorem CP (b:Int):0<=pm b/\pm b<9007199254740992:=by
 have:= @IA b;unfold pm;split<;>omega
theorem Ct (b:Int) : -1074<=pe b/\pe b<=972/\(fx b≠2047->pe b<=971)/\(pe b= -1074\/4503599627370496<=pm b):=by
 have:= @Iz b;have:= @IA b;unfold pe pm;split<;>omega
theorem AAl {b:Int} (h:U b):b=Jq (fs b) (fx b*4503599627370496+fr b):=by
 unfold U at h;unfold Jq fs fx fr;by_cases hb:b>=9223372036854775808
 · rw[decide_eq_true hb,if_pos rfl];omega
 · rw[decide_eq_false hb,if_neg (by decide)];omega
theorem AGi {b:Int} (hb:fx b≠2047):Rd (pm b) (pe b)=fx b*4503599627370496+fr b:=by
 have h1:= @Iz b;have h2:= @IA b;have h3:=CP b;have h4:=Ct b;have h5:(pe b+1074)*4503599627370496+pm b=fx b*4503599627370496+fr b:=by
  unfold pe pm;split<;>omega
 rcases(show pm b=0\/0<pm b by omega) with h | h
 · rw[h,Ve]
   omega
 · rw[(iB h (by omega) h4.1 (h4.2.2.1 hb) h4.2.2.2).2.2.2,h5]
theorem Oo (b:Int):(fk b=4↔fx b=2047/\fr b≠0)/\(fk b=3↔fx b=2047/\fr b=0)/\(fk b=0↔fx b=0/\fr b=0)/\(fk b=0↔fx b≠2047/\pm b=0)/\0<=fk b/\fk b<=4:=by
 have h2:= @IA b;unfold fk pm;by_cases c1:fx b=2047
 · rw[if_pos c1]
   by_cases c2:fr b=0
   · rw[if_pos c2];omega
   · rw[if_neg c2];omega
 · rw[if_neg c1]
   by_cases c3:fx b=0
   · rw[if_pos c3,if_pos c3]
     by_cases c2:fr b=0
     · rw[if_pos c2];omega
     · rw[if_neg c2];omega
   · rw[if_neg c3,if_neg c3];omega
theorem I0 {b:Int} (h4:fk b≠4) (h3:fk b≠3):fx b≠2047:=by
 have:=Oo b;omega
theorem AHQ {l:List Int} {i:Nat} (h:l.length<=i):rd l (i:Int)=0:=ke h
theorem yG {x:Int} (hx:U x) {b:Nat} (hb:b<=63) (h0:x/2^b%2=0):Go.bits .or .u64 x (2^b)=x+2^b/\U (x+2^b):=by
 obtain⟨hx0,hx1⟩:=hx;have hp:=pow_pos b;have OV:=pow_pos (b+1);have AUA:(2:Int)^b<=2^63:=Ar hb;have hs:=IM x (D:=2) hp;rw[h0,AVN,AWY] at hs;rw[show(2:Int)^b*2=2^(b+1) from(AUY ..).symm] at hs;have hd:=AUV x (2^(b+1));have r0:=AUe x (show(2:Int)^b≠0 by omega);have r1:=AUd x hp;rw[hs] at hd;have gb:0<=2^(b+1)*(x/2^(b+1)):=AUM (by omega) (AUX hx0 (by omega));have hAm:2^(b+1)*(x/2^(b+1))%2^(b+1)=0:=AVe ..;have kK:(2:Int)^(b+1)*2^(63-b)=18446744073709551616:=by rw[<-AUZ,show b+1+(63-b)=64 by omega];rfl
 have hq:x/2^(b+1)<2^(63-b):=by rw[AUg OV,AUQ,kK];exact hx1
 have ADw:=AUb (show x/2^(b+1)+1<=2^(63-b) by omega) (AUE OV);rw[kK,AVp,AUk] at ADw;have e2:(2:Int)^(b+1)=2^b*2:=AUY ..;generalize hA:2^(b+1)*(x/2^(b+1))=A at *;generalize hr:x%2^b=r at *;have o1:Go.bits .or .u64 A r=A+r:=Fx (b+1) _ _ gb hAm (by omega) r0 (by omega) (by omega);have o2:Go.bits .or .u64 (2^b) r=2^b+r:=Fx b _ _ (by omega) (Int.emod_self) (by omega) r0 r1 (by omega);have o3:Go.bits .or .u64 A (2^b+r)=A+(2^b+r):=Fx (b+1) _ _ gb hAm (by omega) (by omega) (by omega) (by omega);refine⟨?_,by unfold U;omega⟩;obtain⟨a,ha⟩:=AUP gb;obtain⟨c,hc⟩:=AUP r0;obtain⟨p,hpn⟩:=AUP (AUE hp);have hor : ∀u v:Nat,u<2^64->v<2^64->Go.bits .or .u64 (u:Int) (v:Int)=((u ||| v:Nat):Int):=λu v hu hv=>kI u v hu hv
 rw[ha,hc] at o1;rw[hpn,hc] at o2;have b1:=hor a c (by omega) (by omega);have b2:=hor p c (by omega) (by omega);rw[b1] at o1;rw[b2] at o2;rw[ha,hpn,hc,<-o2,hor a (p ||| c) (by omega) (by omega)] at o3;rw[show x=A+r by omega,ha,hc,<-o1,hpn,hor (a ||| c) p (by omega) (by omega),Nat.or_assoc,Nat.or_comm c p,o3,o1,o2];omega
theorem tR (i:Nat):Int.tdiv (i:Int) 64=((i/64:Nat):Int):=by rw[AU4 (by omega)];omega
theorem AHR (i:Nat):Int.tmod (i:Int) 64=((i%64:Nat):Int):=by rw[AU5 (by omega)];omega
theorem iI {n:Nat} (h:n<=1000000000000):wrap64 (n:Int)=n:=AG (by omega) (by omega)
theorem AHS {n:Nat} (h:n<=1000000000000):IntKind.u64.wrap (n:Int)=n:=DC (by omega) (by omega)
theorem ZM {j:Nat} (h:j<=1000000000000):wrap64 ((j:Int)+1)=((j+1:Nat):Int):=by rw[AG (by omega) (by omega)];omega
theorem ACz {b:Nat} (hb:b<=63):shl .u64 1 (b:Int)=2^b:=by
 have:=Ar (a:=b) (b:=63) (by omega);have:=pow_pos b;rw[M7 _ _ (by omega),AUD,AVd,AUp (by omega) (by omega)]
theorem tS (l:List Int) {i:Nat} (h:l.length<=i):nv (l.take i)=nv l:=by rw[AUS h]
theorem yH {a:List Int} (ha:Wl a) {i:Nat} (hi:i<=60000000) (Y5:nv a/2^i%2=0) {n:Nat} (hn:a.length<=n) (hn2:i/64<n) (hn3:n<=1000000000) (d:Nat) : ∀(j:Nat) (out:List Int),j+d=n->out.length=j->Ws out->nv out=nv (a.take j)+(if i/64<j then 2^i else 0) ->
 ∃r,Ev (λk=>Cc.l0 k a i out (n:Int) j) r/\Ws r/\r.length=n/\nv r=nv a+2^i:=by
 induction d with
 | zero =>
   intro j out hj hlo Ql he;obtain rfl:j=n:=by omega
   refine⟨out,Ev.step (λk=>Cc.l0.eq_2 ..) (Ev.AM (by omega) (Ev.same rfl)),Ql,hlo, ?_⟩;rw[he,tS a hn,if_pos hn2]
 | succ d ih =>
   intro j out hj hlo Ql he;have hx:U (rd a (j:Int)):=I5 ha.1 _;have key : ∀v:Int,U v->v=rd a (j:Int)+(if i/64=j then 2^(i%64) else 0)-> ∃r,Ev (λk=>Cc.l0 k a i (out++ [v]) (n:Int) ((j+1:Nat):Int)) r/\Ws r/\r.length=n/\nv r=nv a+2^i:=by
    intro v hv hve;refine ih (j+1) (out++ [v]) (by omega) (by rw[AUR,hlo];rfl) (bS.2 ⟨Ql,Gf hv⟩) ?_;rw[JX,he,K8,hlo,hve];by_cases h1:i/64=j
    · rw[if_pos h1,if_neg (show¬i/64<j by omega),if_pos (show i/64<j+1 by omega)]
      have:(2:Int)^i=Wp j*2^(i%64):=(by rw[Hr,<-AUZ,show 64*j+i%64=i by omega]);rw[this,AVp];omega
    · rw[if_neg h1,AVM]
      by_cases h2:i/64<j
      · rw[if_pos h2,if_pos (show i/64<j+1 by omega)]
        omega
      · rw[if_neg h2,if_neg (show¬i/64<j+1 by omega)]
        omega
   have hbl:=xe ha.1 i;rw[Y5] at hbl;by_cases hin:j<a.length
   · by_cases h1:i/64=j
     · have hw:=yG hx (b:=i%64) (by omega) (by rw[<-h1];exact hbl.symm)
       obtain⟨r,hr,vY⟩:=key _ hw.2 (by rw[if_pos h1]);refine⟨r,Ev.step (λk=>Cc.l0.eq_2 ..) (Ev.AK (by omega) (Ev.AK (by omega) (Ev.AK (by omega) ?_))),vY⟩;rw[tR,AHR,iI (by omega),AHS (by omega),ACz (by omega),hw.1,ZM (by omega)];exact Ev.AK (by omega) (Ev.AK (by omega) (Ev.AK (by omega) hr))
     · obtain⟨r,hr,vY⟩:=key (rd a (j:Int)) hx (by rw[if_neg h1];omega)
       refine⟨r,Ev.step (λk=>Cc.l0.eq_2 ..) (Ev.AK (by omega) (Ev.AK (by omega) (Ev.AK (by omega) ?_))),vY⟩;rw[tR,iI (by omega),ZM (by omega)];exact Ev.AM (by omega) (Ev.AK (by omega) hr)
   · have hz:=AHQ (l:=a) (i:=j) (by omega)
     by_cases h1:i/64=j
     · have hw:=yG (x:=0) (by unfold U;omega) (b:=i%64) (by omega) (by rw[AXS];rfl)
       obtain⟨r,hr,vY⟩:=key _ hw.2 (by rw[if_pos h1,hz]);refine⟨r,Ev.step (λk=>Cc.l0.eq_2 ..) (Ev.AK (by omega) (Ev.AM (by omega) ?_)),vY⟩;rw[tR,AHR,iI (by omega),AHS (by omega),ACz (by omega),hw.1,ZM (by omega)];exact Ev.AK (by omega) (Ev.AK (by omega) (Ev.AK (by omega) hr))
     · obtain⟨r,hr,vY⟩:=key 0 (by unfold U;omega) (by rw[if_neg h1,hz];omega)
       refine⟨r,Ev.step (λk=>Cc.l0.eq_2 ..) (Ev.AK (by omega) (Ev.AM (by omega) ?_)),vY⟩;rw[tR,iI (by omega),ZM (by omega)];exact Ev.AM (by omega) (Ev.AK (by omega) hr)
theorem UG {a:List Int} (ha:Wl a) (hla:a.length<=1000000) {i:Nat} (hi:i<=60000000) (Y5:nv a/2^i%2=0) :
 ∃r,Ev (λk=>Cc.f k a i) r/\Ws r/\r.length=max a.length (i/64+1)/\nv r=nv a+2^i:=by
 have hm:mx (a.length:Int) (wrap64 ((wrap64 (Int.tdiv (i:Int) 64))+1))=((max a.length (i/64+1):Nat):Int):=by
  rw[AU4 (by omega),AG (n:=(i:Int)/64) (by omega) (by omega),AG (by omega) (by omega)];unfold mx;split<;>omega
 have:=yH ha hi Y5 (n:=max a.length (i/64+1)) (by omega) (by omega) (by omega) (max a.length (i/64+1)) 0 [] (by omega) rfl Jr (by rw[if_neg (by omega)];rfl);unfold Cc.f;rw[hm];exact this
theorem tT {a:List Int} (ha:Wl a) (hla:a.length<=2000) {R:Int} (hR:KK (nv a) R) (j:Nat) (hj:j<=100000) : ∀z:List Int,Ws z->z.length<=2000->nv z%2^j=0->nv z<=R->R<nv z+2^j->Ev (λk=>Dh.l0 k a z ((j:Int)-1)) (dg R):=by
 induction j with
 | zero =>
   intro z hz hlz hm h1 h2;rw[AUW] at h2;refine Ev.step (λk=>Dh.l0.eq_2 ..) (Ev.AM (by omega) ?_);have:=B7 (l:=z) ⟨hz,by omega⟩;rw[show nv z=R by omega] at this;exact Ev.bind this (Ev.same rfl)
 | succ j ih =>
   intro z hz hlz hm h1 h2;have hp:=pow_pos j;have z0:=AS hz;have ej:((j+1:Nat):Int)-1=(j:Int):=(by omega);rw[ej];have hm':=AUV (nv z) (2^(j+1));rw[hm,AVM,AUY,AUl] at hm';have Y5:nv z/2^j%2=0:=by
    rw[<-hm',AWZ _ (by omega)];exact AVe ..
   have hm3:nv z%2^j=0:=by
    rw[<-hm'];exact AVe ..
   refine Ev.step (λk=>Dh.l0.eq_2 ..) (Ev.AK (by omega) ?_);obtain⟨r,hr,hrw,hrl,hrn⟩:=UG (a:=z) ⟨hz,by omega⟩ (by omega) (i:=j) (by omega) Y5;have ATO:r.length<=2000:=(by omega);refine Ev.bind hr ?_;have M:=FP (a:=r) (b:=r) ⟨hrw,by omega⟩ ⟨hrw,by omega⟩ (by omega) (by omega);have r0:=AS hrw;have brr:=Dt r0 r0;have br:=GG hrw;refine Ev.bind M ?_;have C:=GM (a:=dg (nv r*nv r)) (b:=a) (Av (by omega)) ha;rw[AR (AUM r0 r0)] at C;refine Ev.bind C ?_;rw[AG (by omega) (by omega)];rw[AUY] at h2;by_cases hc:Gt (nv r*nv r) (nv a)<=0
   · refine Ev.AK hc ?_
     have hle:nv r*nv r<=nv a:=by
      unfold Gt at hc;split at hc
      · omega
      · split at hc
        · omega
        · omega
     have hlt:nv r<R+1:=Fq (by have:=hR.1;omega) (by have:=hR.2.2;omega);refine ih (by omega) r hrw ATO ?_ (by omega) (by omega);rw[hrn,AXD];exact hm3
   · refine Ev.AM hc ?_
     have hgt:nv a<nv r*nv r:=by
      unfold Gt at hc;split at hc
      · omega
      · split at hc
        · assumption
        · omega
     have hlt:R<nv r:=Fq r0 (by have:=hR.2.1;omega);exact ih (by omega) z hz hlz hm3 h1 (by omega)
theorem sK {a:List Int} (ha:Wl a) (hla:a.length<=1000) {R:Int} (hR:KK (nv a) R):Ev (λk=>Dh.f k a) (dg R):=by
 have h0:=AS ha.1;have hb:=GG ha.1;have hb0:=CI (nv a);refine Ev.bind (Ho ha) ?_;obtain⟨n,hn⟩ : ∃n:Nat,bl (nv a)=n:=⟨(bl (nv a)).toNat,by omega⟩;have e:wrap64 (Int.tdiv (wrap64 (bl (nv a)+1)) 2)=(((n+1)/2+1:Nat):Int)-1:=by
  rw[AG (n:=bl (nv a)+1) (by omega) (by omega),AU4 (by omega),AG (by omega) (by omega)];omega
 rw[e];refine tT ha (by omega) hR ((n+1)/2+1) (by omega) [] Jr (by simp) (by rfl) hR.1 ?_;have l:=F1 (nv a);rw[hn,AUD] at l;have hp:=pow_pos ((n+1)/2+1);show R<0+2^((n+1)/2+1);have:R<2^((n+1)/2+1):=by
  refine Fq (by omega) ?_;rw[<-AUZ];have:=Ar (a:=n) (b:=(n+1)/2+1+((n+1)/2+1)) (by omega);have:=hR.2.1;omega
 omega
def gc (a b:Int):Int:=(Nat.gcd a.toNat b.toNat:Nat)
theorem Li (a b:Nat):gc a b=(Nat.gcd a b:Nat):=by unfold gc;rw[AUD,AUD]
theorem QU (a b:Int):0<=gc a b:=by unfold gc;omega
theorem K3 (a b:Int):gc a b=gc b a:=by unfold gc;rw[AXh]
theorem K7 {a:Int} (h:0<=a):gc a 0=a:=by
 obtain⟨A,rfl⟩:=AUP h;have:=Li A 0;rw[Nat.gcd_zero_right] at this;exact this
theorem AAe {a:Int} (h:0<=a):gc a 1=1:=by
 obtain⟨A,rfl⟩:=AUP h;have:=Li A 1;rw[Nat.gcd_one_right] at this;exact this
theorem tU {a b:Int} (ha:0<=a) (hb:0<=b):gc b (a%b)=gc a b:=by
 obtain⟨A,rfl⟩:=AUP ha;obtain⟨B,rfl⟩:=AUP hb;rw[<-Int.natCast_emod,Li,Li,AXh A B,Nat.gcd_rec B A,AXh]
theorem ALh {x y:Int} (hy:0<=y) (h:y<=x):gc (x-y) y=gc x y:=by
 obtain⟨X,rfl⟩:=AUP (show 0<=x by omega);obtain⟨Y,rfl⟩:=AUP hy;rw[show(X:Int)-Y=((X-Y:Nat):Int) by omega,Li,Li,Nat.gcd_sub_self_left (by omega)]
theorem AHT {x y c:Int} (hx:0<=x) (hy:0<=y) (hc:0<=c):gc (x*c) (y*c)=gc x y*c:=by
 obtain⟨X,rfl⟩:=AUP hx;obtain⟨Y,rfl⟩:=AUP hy;obtain⟨C,rfl⟩:=AUP hc;rw[<-AWF,<-AWF,Li,Li,Nat.gcd_mul_right,AWF]
theorem AHU {x y:Int} (hx:0<=x) (hy:0<=y) (ho:y%2=1) (t:Nat):gc (x*2^t) y=gc x y:=by
 obtain⟨X,rfl⟩:=AUP hx;obtain⟨Y,rfl⟩:=AUP hy;have e:(X:Int)*2^t=((X*2^t:Nat):Int):=by rw[AWF,AW5];rfl
 have hc:Nat.Coprime (2^t) Y:=by
  refine Nat.Coprime.pow_left t ?_;have:Nat.gcd 2 Y=Nat.gcd (Y%2) 2:=Nat.gcd_rec 2 Y;rw[show Y%2=1 by omega,Nat.gcd_one_left] at this;exact this
 rw[e,Li,Li,Nat.Coprime.gcd_mul_right_cancel X hc]
theorem AD0 {x y:Int} (hx:0<=x) (hy:0<=y) (hox:x%2=1) (hoy:y%2=1) (i j:Nat):gc (x*2^i) (y*2^j)=gc x y*2^(min i j):=by
 have key : ∀(x y:Int) (i j:Nat),0<=x->0<=y->x%2=1->i<=j->gc (x*2^i) (y*2^j)=gc x y*2^i:=by
  intro x y i j hx hy hox hij;have e:y*2^j=y*2^(j-i)*2^i:=by rw[AUl,<-AUZ,show j-i+i=j by omega]
  have hp:=pow_pos i;have Mw:=pow_pos (j-i);rw[e,AHT hx (AUM hy (by omega)) (by omega),K3 x,AHU hy hx hox,K3 y]
 rcases AXY i j with h | h
 · rw[key x y i j hx hy hox h,AUa h]
 · rw[K3,key y x j i hy hx hoy h,Nat.min_eq_right h,K3]
theorem RB {a b:Int} (h:0<a\/0<b):0<gc a b:=by
 unfold gc;have:0<Nat.gcd a.toNat b.toNat:=by
  rcases h with h | h
  · exact Nat.gcd_pos_of_pos_left _ (by omega)
  · exact Nat.gcd_pos_of_pos_right _ (by omega)
 omega
theorem Ix {a b:Int} (ha:0<=a) (hb:0<=b):a/gc a b*gc a b=a/\b/gc a b*gc a b=b:=by
 obtain⟨A,rfl⟩:=AUP ha;obtain⟨B,rfl⟩:=AUP hb;rw[Li];have h1:=Nat.div_mul_cancel (Nat.gcd_dvd_left A B);have h2:=Nat.div_mul_cancel (Nat.gcd_dvd_right A B);exact⟨by exact_mod_cast h1,by exact_mod_cast h2⟩
theorem AI9 {a:Int} (h:0<=a):gc a a=a:=by
 obtain⟨A,rfl⟩:=AUP h;rw[Li,Nat.gcd_self]
theorem Xi {a b:Int} (ha:0<=a) (hb:0<=b) (h:0<a\/0<b):gc (a/gc a b) (b/gc a b)=1:=by
 have hg:=RB h;have hs:=Ix ha hb;have h1:0<=a/gc a b:=AUX ha (by omega);have h2:0<=b/gc a b:=AUX hb (by omega);have hm:=AHT h1 h2 (QU a b);rw[hs.1,hs.2] at hm;have:1*gc a b=gc (a/gc a b) (b/gc a b)*gc a b:=by rw[AVd];exact hm
 exact(AVn (by omega) this).symm
theorem AD1 {p q p' q':Int} (hp:0<=p) (hq:0<q) (CY:0<=p') (hq':0<q') (h:p*q'=p'*q):p/gc p q=p'/gc p' q'/\q/gc p q=q'/gc p' q':=by
 have key : ∀(a b a' b':Nat),Nat.gcd a b=1->Nat.gcd a' b'=1->0<b->0<b'->a*b'=a'*b->a=a'/\b=b':=by
  intro a b a' b' h1 h2 hb hb' he;have d1:b∣b':=by
   have:b∣a*b':=⟨a',by rw[he,AV4]⟩;exact AWh (Nat.Coprime.symm h1) this
  have d2:b'∣b:=by
   have:b'∣a'*b:=⟨a,by rw[<-he,AV4]⟩;exact AWh (Nat.Coprime.symm h2) this
  have hbb:b=b':=Nat.dvd_antisymm d1 d2;subst hbb;exact⟨Nat.eq_of_mul_eq_mul_right hb he,rfl⟩
 have g1:=RB (a:=p) (b:=q) (.inr hq);have g2:=RB (a:=p') (b:=q') (.inr hq');have s1:=Ix hp (AUE hq);have s2:=Ix CY (AUE hq');have r1:=Xi hp (AUE hq) (.inr hq);have r2:=Xi CY (AUE hq') (.inr hq');have a0:0<=p/gc p q:=AUX hp (by omega);have b0:0<=q/gc p q:=AUX (by omega) (by omega);have a0':0<=p'/gc p' q':=AUX CY (by omega);have b0':0<=q'/gc p' q':=AUX (by omega) (by omega);have bp:q/gc p q≠0:=by
  intro hz;rw[hz,AVO] at s1;omega
 have bp':q'/gc p' q'≠0:=by
  intro hz;rw[hz,AVO] at s2;omega
 generalize p/gc p q=a at *;generalize q/gc p q=b at *;generalize p'/gc p' q'=a' at *;generalize q'/gc p' q'=b' at *;generalize gc p q=g at *;generalize gc p' q'=g' at *;have he:a*b'=a'*b:=by
  have h1:(a*b')*(g*g')=(a'*b)*(g*g'):=by
   have e1:(a*b')*(g*g')=(a*g)*(b'*g'):=(by grind);have e2:(a'*b)*(g*g')=(a'*g')*(b*g):=(by grind);rw[e1,e2,s1.1,s1.2,s2.1,s2.2];exact h
  have:=AU3 g1 g2;exact AVn (by omega) h1
 obtain⟨A,rfl⟩:=AUP a0;obtain⟨B,rfl⟩:=AUP b0;obtain⟨A',rfl⟩:=AUP a0';obtain⟨B',rfl⟩:=AUP b0';rw[Li] at r1 r2;have:=key A B A' B' (by exact_mod_cast r1) (by exact_mod_cast r2) (by omega) (by omega) (by exact_mod_cast he);exact⟨by rw[this.1],by rw[this.2]⟩
theorem yI (n:Nat) : ∀x y:Int,y.toNat<=n->0<=x->0<=y->Ev (λk=>EE.l0 k x y) (gc x y):=by
 induction n with
 | zero =>
   intro x y hn h0 h1;obtain rfl:y=0:=by omega
   exact Ev.step (λk=>EE.l0.eq_2 ..) (Ev.AK rfl (Ev.same (by rw[K7 h0])))
 | succ n ih =>
   intro x y hn h0 h1;refine Ev.step (λk=>EE.l0.eq_2 ..) ?_;by_cases hy:y=0
   · exact Ev.AK hy (Ev.same (by rw[hy,K7 h0]))
   · refine Ev.AM hy ?_
     rw[AU5 h0,<-tU h0 h1];have r0:=AUe x hy;have r1:=AUd x (show 0<y by omega);exact ih y (x%y) (by omega) h1 r0
theorem dL {x y:Int} (hx:0<=x) (hy:0<y):gc x y<=y:=by
 have s:=Ix hx (AUE hy);have g:=QU x y;have hq:0<y/gc x y:=by
  have:=AUX (AUE hy) g;rcases(show y/gc x y=0\/0<y/gc x y by omega) with h | h
  · rw[h,AVO] at s
    omega
  · exact h
 have:=AUL (show 1<=y/gc x y by omega) g;rw[s.2] at this;omega
theorem AD2 (n:Nat) : ∀A B:Int,B.toNat<=n->0<=A->0<=B->bl A<=640000000->bl B<=640000000->Ev (λk=>GI.l0 k (dg A) (dg B)) (dg (gc A B)):=by
 have low : ∀A B:Int,0<=A->0<=B->bl A<=640000000->bl B<=640000000-> ¬((dg B).length:Int)>1->Ev (λk=>GI.l0 k (dg A) (dg B)) (dg (gc A B)):=by
  intro A B hA hB bA bB hl;have wA:Wl (dg A):=Av (by omega);have wB:Wl (dg B):=Av (by omega);have hlt:=QO hB;have hle:=kV (show(dg B).length<=1 by omega);have hW:Wp 1=18446744073709551616:=by decide
  have hB1:B<18446744073709551616:=by omega
  have N:=XZ wB;rw[AR hB,if_pos hB1] at N;refine Ev.step (λk=>GI.l0.eq_2 ..) (Ev.AM hl (Ev.bind N ?_));by_cases hz:B=0
  · refine Ev.AK hz (Ev.same ?_)
    rw[hz,K7 hA]
  · have D:=dK wA (d:=B) (by omega) hB1
    rw[AR hA] at D;have r0:=AUe A hz;have r1:=AUd A (show 0<B by omega);have W:=yI (A%B).toNat B (A%B) (AUN _) hB r0;rw[tU hA hB] at W;have g0:=QU A B;have g1:=dL hA (show 0<B by omega);exact Ev.AM hz (Ev.bind D (Ev.bind W (Ev.bind (Tu (x:=gc A B) ⟨g0,by omega⟩) (Ev.same rfl))))
 induction n with
 | zero =>
   intro A B hn hA hB bA bB;obtain rfl:B=0:=by omega
   exact low A 0 hA hB bA bB (by rw[IZ];simp)
 | succ n ih =>
   intro A B hn hA hB bA bB;by_cases hl:((dg B).length:Int)>1
   · have hz:B≠0:=λk=>by rw[k,IZ] at hl;simp at hl
     have wA:Wl (dg A):=Av (by omega);have wB:Wl (dg B):=Av (by omega);have lA:=AN A;have D:=RF wA wB (by omega);rw[AR hA,AR hB,if_neg hz] at D;have r0:=AUe A hz;have r1:=AUd A (show 0<B by omega);have br:=Bq (show A%B<=B by omega);refine Ev.step (λk=>GI.l0.eq_2 ..) (Ev.AK hl (Ev.bind D ?_));rw[<-tU hA hB];exact ih B (A%B) (by omega) hB r0 bB (by omega)
   · exact low A B hA hB bA bB hl
theorem AD3 {a b:List Int} (ha:Wl a) (hb:Wl b) (hla:a.length<=10000000) (hlb:b.length<=10000000):Ev (λk=>GI.f k a b) (dg (gc (nv a) (nv b))):=by
 have ba:=GG ha.1;have bb:=GG hb.1;exact Ev.bind (DL ha) (Ev.bind (DL hb) (AD2 (nv b).toNat (nv a) (nv b) (AUN _) (AS ha.1) (AS hb.1) (by omega) (by omega)))
theorem AP8 {a b:Int} (ha:0<=a) (hb:0<=b) {m:Int} (h1:bl a<=m) (h2:bl b<=m):bl (gc a b)<=m:=by
 rcases(show b=0\/0<b by omega) with h | h
 · rw[h,K7 ha];exact h1
 · have:=Bq (dL ha h)
   omega
theorem RA {a b:List Int} (ha:Wl a) (hb:Wl b) (hla:a.length<=10000000) (hlb:b.length<=10000000):Ev (λk=>Gc.f k a b) (dg (nv a/gc (nv a) (nv b)),dg (nv b/gc (nv a) (nv b))):=by
 have na:=AS ha.1;have nb:=AS hb.1;have ba:=GG ha.1;have bb:=GG hb.1;refine Ev.bind (AD3 ha hb hla hlb) ?_;have g0:=QU (nv a) (nv b);have bg:=AP8 na nb (m:=640000000) (by omega) (by omega);have wg:Wl (dg (gc (nv a) (nv b))):=Av (by omega);by_cases hz:gc (nv a) (nv b)=0
 · rw[hz,AXc,AXc]
   exact Ev.AK rfl (Ev.same rfl)
 · refine Ev.AM (λk=>hz ((C1 g0).1 (by omega))) ?_
   have D1:=RF ha wg (by omega);have D2:=RF hb wg (by omega);rw[AR g0,if_neg hz] at D1 D2;exact Ev.bind D1 (Ev.bind D2 (Ev.same rfl))
theorem ZN {l:List Int} (h:Ws l) (h1:(dg (nv l)).length=1):0<l.length/\rd l 0=nv l/\0<nv l/\nv l<18446744073709551616:=by
 have h0:=AS h;have hlt:=QO h0;rw[h1] at hlt;have hW:Wp 1=18446744073709551616:=by decide
 rw[hW] at hlt;have hne:nv l≠0:=λk=>by rw[k] at h1;cases h1
 cases l with
 | nil=>exact absurd rfl hne
 | cons x l =>
   have hx:=Ht.1 h;have hn:=AS hx.2;have hU:=hx.1;unfold U at hU;rw[Ck] at hlt hne h0 ⊢;refine⟨by simp, ?_,by omega,hlt⟩;show x=_;omega
theorem tV (A:Int) (i:Nat):A/2^i=2*(A/2^(i+1))+A/2^i%2:=by
 rw[AUY,<-AUt (by have:=pow_pos i;omega)];omega
theorem yJ {a b:List Int} (ha:Wl a) (hb:Wl b) (hla:a.length<=200000) (hlb:b.length<=200000) (hB:0<nv b) (j:Nat) (hj:j<=20000000) :
 ∀q r:List Int,Ws q->q.length<=400000->Ws r->r.length<=400000->nv q%2^j=0->nv r<nv b->nv a/2^j=nv q/2^j*nv b+nv r ->
  Ev (λk=>Bg.l0 k a b q r ((j:Int)-1)) (dg (nv a/nv b),dg (nv a%nv b)):=by
 induction j with
 | zero =>
   intro q r hq hlq hr hlr hm hlt he;refine Ev.step (λk=>Bg.l0.eq_2 ..) (Ev.AM (by omega) ?_);rw[AUW,AU9,AU9] at he;have Yc:=AS hr;have hdiv:=(AWv (a:=nv a) (b:=nv b) (r:=nv r) (q:=nv q) hB).2 ⟨by rw[he,AUQ];omega,Yc,hlt⟩;rw[hdiv.1,hdiv.2];exact Ev.bind (B7 ⟨hq,by omega⟩) (Ev.bind (B7 ⟨hr,by omega⟩) (Ev.same rfl))
 | succ j ih =>
   intro q r hq hlq hr hlr hm hlt he;have hp:=pow_pos j;have hq0:=AS hq;have Yc:=AS hr;have gb:=AS ha.1;have ej:((j+1:Nat):Int)-1=(j:Int):=(by omega);rw[ej];have hm':=AUV (nv q) (2^(j+1));rw[hm,AVM,AUY,AUl] at hm';have hqj:nv q/2^j=2*(nv q/(2^j*2)):=by
    conv=>lhs;rw[<-hm']
    rw[AWZ _ (by omega)]
   have Y5:nv q/2^j%2=0:=(by rw[hqj];exact AVe ..);have hm3:nv q%2^j=0:=(by rw[<-hm'];exact AVe ..);have hstep:=tV (nv a) j;rw[AUY] at hstep he;refine Ev.step (λk=>Bg.l0.eq_2 ..) (Ev.AK (by omega) ?_);have S:=C3 (a:=r) ⟨hr,by omega⟩ (by omega) 1;rw[T3 (by omega) (by omega),show(1:Int).toNat=1 from rfl,AVh] at S;refine Ev.bind S ?_;have hbv:=GG hb.1;have br2:bl (nv r*2)<=12800002:=by
    have:=Dt (x:=nv r) (y:=2) Yc (by omega);have:=Bq (show nv r<=nv b by omega);have:bl 2=2:=rfl;omega
   have lr2:=AN (nv r*2);have j2 : ∀z:List Int,Ws z->z.length<=200002->nv z=nv r*2+nv a/2^j%2->Ev (λk=>Bg.j2 k a b q z (j:Int)) (dg (nv a/nv b),dg (nv a%nv b)):=by
    intro z hz hlz hnz;have ATD:0<=nv a/2^j%2/\nv a/2^j%2<2:=(by omega);refine Ev.step (λk=>Bg.j2.eq_2 ..) (Ev.bind (GM (a:=z) ⟨hz,by omega⟩ hb) ?_);have ew:wrap64 ((j:Int)-1)=(j:Int)-1:=AG (by omega) (by omega);rw[ew];have hAj:nv a/2^j=nv q/2^j*nv b+nv z:=by
     rw[hstep,he,hqj,hnz]
     grind
    by_cases hc:Gt (nv z) (nv b)>=0
    · have hge:nv b<=nv z:=by
       unfold Gt at hc;split at hc
       · omega
       · omega
      refine Ev.AK hc ?_;have D:=HJ (a:=z) (b:=b) ⟨hz,by omega⟩ hb (by omega) (by omega) hge;refine Ev.bind D ?_;obtain⟨t,ht,htw,htl,htn⟩:=UG (a:=q) ⟨hq,by omega⟩ (by omega) (i:=j) (by omega) Y5;refine Ev.bind ht ?_;have zG:=AS hz;have bz:=GG hz;have bzb:=Bq (show nv z-nv b<=nv z by omega);have lz:=AN (nv z-nv b);have hq2:nv t/2^j=nv q/2^j+1:=by
       rw[htn,show nv q+2^j=nv q+2^j*1 by omega,AUy _ _ (by omega)]
      refine ih (by omega) t (dg (nv z-nv b)) htw (by omega) (Sl _) (by omega) ?_ ?_ ?_
      · rw[htn,AXD];exact hm3
      · rw[AR (by omega)];omega
      · rw[AR (by omega),hq2,hAj,AVt]
        omega
    · have ATP:nv z<nv b:=by
       unfold Gt at hc;split at hc
       · assumption
       · split at hc<;>omega
      exact Ev.AM hc (ih (by omega) q z hq hlq hz (by omega) hm3 ATP hAj)
   refine Ev.AP (Ou ha (by omega)) ?_;unfold bL;rw[AUD];by_cases hbt:nv a/2^j%2=1
   · refine Ev.AK (by simp[hbt]) ?_
     obtain⟨t,ht,htw,htl,htn⟩:=UG (a:=dg (nv r*2)) (Av (by omega)) (by omega) (i:=0) (by omega) (by rw[AR (by omega),AUW,AU9];omega);refine Ev.bind ht (j2 t htw (by omega) ?_);rw[htn,AR (by omega),hbt];rfl
   · refine Ev.AM (by simp[hbt]) (j2 _ (Sl _) (by omega) ?_)
     rw[AR (by omega)];omega
theorem c8 {a b:List Int} (ha:Wl a) (hb:Wl b) (hla:a.length<=100000) (hlb:b.length<=100000) (hB:0<nv b):Ev (λk=>Bg.f k a b) (dg (nv a/nv b),dg (nv a%nv b)):=by
 have gb:=AS ha.1;have ba:=GG ha.1;have bb:=GG hb.1;have bb0:=C9 hB;have ba0:=CI (nv a);have no:Ev (λk=>Bg.j0 k a b [] false) (dg (nv a/nv b),dg (nv a%nv b)):=by
  refine Ev.step (λk=>Bg.j0.eq_2 ..) (Ev.AM (by decide) ?_);refine Ev.bind (Ho ha) (Ev.bind (Ho hb) ?_);obtain⟨j,hj⟩ : ∃j:Nat,(j:Int)=max 0 (bl (nv a)-bl (nv b)+1):=⟨(max 0 (bl (nv a)-bl (nv b)+1)).toNat,by omega⟩;have e:mx 0 (wrap64 ((wrap64 (bl (nv a)-bl (nv b)))+1))=(j:Int):=by
   rw[AG (n:=bl (nv a)-bl (nv b)) (by omega) (by omega),AG (by omega) (by omega)];unfold mx;generalize bl (nv a)=x at *;generalize bl (nv b)=y at *;split<;>omega
  rw[e,AG (n:=(j:Int)-1) (by omega) (by omega)];have R:=Ka ha (n:=(j:Int)) (by omega);rw[AUD] at R;refine Ev.bind R ?_;have hp:=pow_pos j;have r0:0<=nv a/2^j:=AUX gb (by omega);have rle:nv a/2^j<=nv a:=AU2 _ gb;have br:=Bq rle;have lr:=AN (nv a/2^j);refine yJ ha hb (by omega) (by omega) hB j (by omega) [] (dg (nv a/2^j)) Jr (by simp) (Sl _) (by omega) (by show(0:Int)%_=0;rw[Int.zero_emod]) ?_ ?_
  · rw[AR r0,AUg hp]
    have l1:=F1 (nv a);have l2:=Sp hB;have h3:=AUL l2 (AUE hp);rw[<-AUZ] at h3;have:=Ar (a:=(bl (nv a)).toNat) (b:=(bl (nv b)-1).toNat+j) (by omega);omega
  · rw[AR r0]
    show _=(0:Int)/_*_+_;rw[AXS,AVO,AWY]
 refine Ev.bind (Du ha) ?_;by_cases h1:((dg (nv a)).length:Int)=1
 · refine Ev.AK h1 (Ev.bind (Du hb) ?_)
   by_cases h2:((dg (nv b)).length:Int)=1
   · rw[h2]
     obtain⟨a1,a2,a3,a4⟩:=ZN ha.1 (by omega);obtain⟨b1,b2,b3,b4⟩:=ZN hb.1 (by omega);refine Ev.step (λk=>Bg.j0.eq_2 ..) (Ev.AK rfl (Ev.AK (by omega) (Ev.AK (by omega) ?_)));rw[a2,b2];refine Ev.AM (by omega) ?_;have q0:0<=nv a/nv b:=AUX gb (by omega);have q1:nv a/nv b<=nv a:=AU2 _ gb;have r0:=AUe (nv a) (show nv b≠0 by omega);have r1:=AUd (nv a) hB;rw[AU4 gb,AU5 gb,DC q0 (by omega)];have T1:=B7 (l:= [nv a/nv b]) ⟨Gf (by unfold U;omega),by simp⟩;have T2:=B7 (l:= [nv a%nv b]) ⟨Gf (by unfold U;omega),by simp⟩;rw[Fp] at T1 T2;exact Ev.bind T1 (Ev.bind T2 (Ev.same rfl))
   · have:(((dg (nv b)).length:Int)==1)=false:=by rw[beq_eq_false_iff_ne];exact h2
     rw[this];exact no
 · exact Ev.AM h1 no
theorem ZO {a g:List Int} (ha:Wl a) (hg:Wl g) (hla:a.length<=100000) (hlg:g.length<=100000):Ev (λk=>KX.f k a g) (dg (nv a/nv g)):=by
 have hg0:=AS hg.1;refine Ev.bind (Du hg) ?_;by_cases hz:nv g=0
 · rw[hz,AXc]
   exact Ev.AK rfl (Ev.same rfl)
 · refine Ev.AM (λk=>hz ((C1 hg0).1 (by omega))) ?_
   have C:=GM hg (b:= [1]) ⟨Gf (by unfold U;omega),by decide⟩;rw[Fp] at C;refine Ev.bind C ?_;by_cases h1:nv g=1
   · rw[h1,AU9]
     exact Ev.AK rfl (Ev.bind (B7 ha) (Ev.same rfl))
   · refine Ev.AM ?_ (Ev.bind (c8 ha hg hla hlg (by omega)) (Ev.same rfl))
     unfold Gt;split
     · omega
     · split<;>omega
theorem kr {x:Int} (h:0<x) : ∃n:Nat,tz x=n/\x=x/2^n*2^n/\x/2^n%2=1:=by
 obtain⟨n,h1,h2,h3⟩:=Y3 h;refine⟨n,h1, ?_,h2⟩;have key : ∀j:Nat,j<=n->x%2^j=0:=by
  intro j;induction j with
  | zero=>intro _;rw[AUW,AVs]
  | succ j ih =>
    intro hj;rw[AUY,IM x (pow_pos j),h3 j (by omega),ih (by omega)];simp
 have hd:=AUV x (2^n);rw[key n (AUN _),AVM,AUQ] at hd;exact hd.symm
theorem tW (n:Nat) : ∀x y:Int,y.toNat<=n->0<x->0<=y->x<18446744073709551616->y<18446744073709551616->Ev (λk=>Bo.l0 k x y) [gc x y]:=by
 induction n with
 | zero =>
   intro x y hn h0 h1 h2 h3;obtain rfl:y=0:=by omega
   refine Ev.step (λk=>Bo.l0.eq_2 ..) (Ev.AM (by omega) (Ev.same ?_));rw[K7 (by omega)]
 | succ n ih =>
   intro x y hn h0 h1 h2 h3;refine Ev.step (λk=>Bo.l0.eq_2 ..) ?_;by_cases hy:y>0
   · refine Ev.AK hy (Ev.AM (by omega) ?_)
     rw[AU5 (by omega)];have r0:=AUe x (show y≠0 by omega);have r1:=AUd x hy;rw[<-tU (by omega) h1];exact ih y (x%y) (by omega) hy r0 h3 (by omega)
   · obtain rfl:y=0:=by omega
     refine Ev.AM (by omega) (Ev.same ?_);rw[K7 (by omega)]
theorem AA8 {x:Int} (h:0<x) (hb:bl x<=6400000):Ev (λk=>Cb.f k (dg x)) (tz x)/\ ∃n:Nat,tz x=n/\n<=6400000/\x=x/2^n*2^n/\x/2^n%2=1/\0<x/2^n/\x/2^n<=x/\Ev (λk=>BG.f k (dg x) (n:Int)) (dg (x/2^n)):=by
 have w:Wl (dg x):=Av (by omega);have E:=RK w;rw[AR (by omega)] at E;obtain⟨n,h1,h2,h3⟩:=kr h;have hlt:=pI h;have S:=Ka w (n:=(n:Int)) (by omega);rw[AR (by omega),AUD] at S;have hp:=pow_pos n;have q0:0<=x/2^n:=AUX (by omega) (by omega);have q1:x/2^n<=x:=AU2 _ (by omega);exact⟨E,n,h1,by omega,h2,h3,by omega,q1,S⟩
theorem tX {c:Int} (hc0:0<=c) (hc:c<=64000) (n:Nat) : ∀x y:Int,(x+y).toNat<=n->0<x->0<y->x%2=1->y%2=1->bl x<=6400000->bl y<=6400000->Ev (λk=>Bo.l1 k c (dg x) (dg y)) (dg (gc x y*2^c.toNat)):=by
 induction n with
 | zero=>intro x y hn h0 h1;omega
 | succ n ih =>
   intro x y hn h0 h1 ho1 ho2 hb1 uN;have wx:Wl (dg x):=Av (by omega);have wy:Wl (dg y):=Av (by omega);have lx:=AN x;have ly:=AN y;have C:=GM wx wy;rw[AR (by omega),AR (by omega)] at C;refine Ev.step (λk=>Bo.l1.eq_2 ..) (Ev.bind C ?_);have more : ∀u v:Int,0<u->0<v->u%2=1->v%2=1->bl u<=6400000->bl v<=6400000->v<u->(u+v).toNat<=n+1 ->
    Ev (λk=>(CB.f k (dg u) (dg v)).bind λt=>(Cb.f k t).bind λs=>(BG.f k t s).bind λz=>Bo.l1 k c z (dg v)) (dg (gc u v*2^c.toNat)):=by
    intro u v hu hv hou hov hbu hbv hlt hs;have wu:Wl (dg u):=Av (by omega);have wv:Wl (dg v):=Av (by omega);have lu:=AN u;have lv:=AN v;have D:=HJ wu wv (by omega) (by omega) (by rw[AR (by omega),AR (by omega)];omega);rw[AR (by omega),AR (by omega)] at D;have bd:=Bq (show u-v<=u by omega);obtain⟨E,m,hm1,hm2,hm3,hm4,hm5,hm6,S⟩:=AA8 (x:=u-v) (by omega) (by omega);rw[hm1] at E;refine Ev.bind D (Ev.bind E (Ev.bind S ?_));have bq:=Bq hm6;have g1:gc u v=gc ((u-v)/2^m) v:=by
     rw[<-ALh (by omega) (show v<=u by omega)]
     conv=>lhs;rw[hm3]
     exact AHU (by omega) (by omega) hov m
    rw[g1];exact ih _ v (by omega) hm5 hv hm4 hov (by omega) hbv
   by_cases he:x=y
   · refine Ev.AK (by unfold Gt;rw[if_neg (by omega),if_neg (by omega)]) ?_
     have S:=C3 wx (by omega) c;rw[AR (by omega),T3 hc0 (by omega)] at S;refine Ev.bind S (Ev.same ?_);rw[<-he,AI9 (by omega)]
   · by_cases hlt:x<y
     · refine Ev.AM (by unfold Gt;rw[if_pos hlt];omega) (Ev.AK (by unfold Gt;rw[if_pos hlt];omega) ?_)
       rw[K3];exact more y x h1 h0 ho2 ho1 uN hb1 hlt (by omega)
     · have hcm:Gt x y=1:=by unfold Gt;rw[if_neg hlt,if_pos (by omega)]
       refine Ev.AM (by rw[hcm];omega) (Ev.AM (by rw[hcm];omega) ?_);exact more x y h0 h1 ho1 ho2 hb1 uN (by omega) (by omega)
theorem yK {a b:List Int} (ha:Wl a) (hb:Wl b) (hla:a.length<=100000) (hlb:b.length<=100000) (ht:0<nv b->tz (nv b)<=64000):Ev (λk=>Bo.f k a b) (dg (gc (nv a) (nv b))):=by
 have gb:=AS ha.1;have hB0:=AS hb.1;have ba:=GG ha.1;have bb:=GG hb.1;refine Ev.bind (Du ha) ?_;by_cases hza:nv a=0
 · refine Ev.AK (by rw[hza];rfl) (Ev.bind (B7 hb) (Ev.same ?_))
   rw[hza,K3,K7 hB0]
 · refine Ev.AM (λk=>hza ((C1 gb).1 (by omega))) (Ev.bind (Du hb) ?_)
   by_cases hzb:nv b=0
   · refine Ev.AK (by rw[hzb];rfl) (Ev.bind (B7 ha) (Ev.same ?_))
     rw[hzb,K7 gb]
   · refine Ev.AM (λk=>hzb ((C1 hB0).1 (by omega))) (Ev.bind (Du ha) ?_)
     have long:Ev (λk=>Bo.j0 k a b false) (dg (gc (nv a) (nv b))):=by
      refine Ev.step (λk=>Bo.j0.eq_2 ..) (Ev.AM (by decide) ?_);obtain⟨n,n1,n2,n3⟩:=kr (show 0<nv a by omega);obtain⟨m,m1,m2,m3⟩:=kr (show 0<nv b by omega);have tn:=pI (show 0<nv a by omega);have tm:=pI (show 0<nv b by omega);have Ea:=RK ha;have Eb:=RK hb;rw[n1] at Ea tn;have ht:=ht (by omega);rw[m1] at Eb tm ht;have Sa:=Ka ha (n:=(n:Int)) (by omega);have Sb:=Ka hb (n:=(m:Int)) (by omega);rw[AUD] at Sa Sb;refine Ev.bind Ea (Ev.bind Eb (Ev.bind Ea (Ev.bind Sa (Ev.bind Eb (Ev.bind Sb ?_)))));have qa:0<=nv a/2^n:=AUX gb (by have:=pow_pos n;omega);have qb:0<=nv b/2^m:=AUX hB0 (by have:=pow_pos m;omega);have qa1:nv a/2^n<=nv a:=AU2 _ gb;have qb1:nv b/2^m<=nv b:=AU2 _ hB0;have ba1:=Bq qa1;have bb1:=Bq qb1;have hmn:mn (n:Int) (m:Int)=((min n m:Nat):Int):=(by unfold mn;split<;>omega);rw[hmn];have L:=tX (c:=((min n m:Nat):Int)) (by omega) (by omega) (nv a/2^n+nv b/2^m).toNat (nv a/2^n) (nv b/2^m) (AUN _) (by omega) (by omega) n3 m3 (by omega) (by omega);rw[AUD,<-AD0 qa qb n3 m3 n m,<-n2,<-m2] at L;exact L
     by_cases h1:((dg (nv a)).length:Int)=1
     · refine Ev.AK h1 (Ev.bind (Du hb) ?_)
       by_cases h2:((dg (nv b)).length:Int)=1
       · rw[h2]
         obtain⟨a1,a2,a3,a4⟩:=ZN ha.1 (by omega);obtain⟨b1,b2,b3,b4⟩:=ZN hb.1 (by omega);refine Ev.step (λk=>Bo.j0.eq_2 ..) (Ev.AK rfl (Ev.AK (by omega) (Ev.AK (by omega) ?_)));rw[a2,b2];have g1:=RB (a:=nv a) (b:=nv b) (.inl a3);have g2:=Ix gb hB0;have g3:gc (nv a) (nv b)<=nv a:=by
          have hq:0<nv a/gc (nv a) (nv b):=by
           rcases(show nv a/gc (nv a) (nv b)<=0\/0<nv a/gc (nv a) (nv b) by omega) with h | h
           · have:=AUX gb (show 0<=gc (nv a) (nv b) by omega)
             rw[show nv a/gc (nv a) (nv b)=0 by omega,AVO] at g2;omega
           · exact h
          have:=AUL (show 1<=nv a/gc (nv a) (nv b) by omega) (AUE g1);rw[g2.1] at this;omega
         have L:=tW (nv b).toNat (nv a) (nv b) (AUN _) a3 (by omega) a4 b4;rw[N6 g1,kG (by omega),AUp (by omega) (by omega)];exact L
       · have:(((dg (nv b)).length:Int)==1)=false:=by rw[beq_eq_false_iff_ne];exact h2
         rw[this];exact long
     · exact Ev.AM h1 long
def ab (x:Int):Int:=if x<0 then -x else x
theorem Dy (x:Int):0<=ab x:=by unfold ab;split<;>omega
theorem RC {x:Int} :ab x=0↔x=0:=by unfold ab;split<;>omega
theorem bI (x:Int) {d:Int} (h:0<d):ab (x*d)=ab x*d:=by
 unfold ab;by_cases hx:x<0
 · have:=AXK hx h
   rw[if_pos hx,if_pos this,AVX]
 · have:=AUM (show 0<=x by omega) (AUE h)
   rw[if_neg hx,if_neg (by omega)]
theorem dM (x:Int) {d:Int} (h:0<d):x*d<0↔x<0:=by
 constructor
 · intro h1
   rcases AU1 x 0 with h2 | h2
   · exact h2
   · have:=AUM h2 (AUE h)
     omega
 · intro h1
   exact AXK h1 h
def Rq (S D:Int):Bool × List Int × List Int:=if S=0 then(false,[],[1]) else(decide (S<0),dg (ab S/gc (ab S) D),dg (D/gc (ab S) D))
theorem WR {S D S' D':Int} (hD:0<D) (hD':0<D') (h:S*D'=S'*D):Rq S D=Rq S' D':=by
 have n1:=dM S hD';have n2:=dM S' hD;have a1:=bI S hD';have a2:=bI S' hD;rw[h] at n1 a1;have z:S=0↔S'=0:=by
  have z1:= @RC S;have z2:= @RC S';constructor
  · intro k
    rw[k,AVO] at h;exact(AW4.1 h.symm).resolve_right (by omega)
  · intro k
    rw[k,AVO] at h;exact(AW4.1 h).resolve_right (by omega)
 unfold Rq;by_cases hz:S=0
 · rw[if_pos hz,if_pos (z.1 hz)]
 · rw[if_neg hz,if_neg (λk=>hz (z.2 k))]
   have hl:=AD1 (Dy S) hD (Dy S') hD' (by rw[<-a1,a2]);rw[hl.1,hl.2]
   congr 1
   exact decide_eq_decide.2 (n1.symm.trans n2)
theorem ACg {a b:Int} (ha:0<=a) (hb:0<b):a/gc a b<=a/\b/gc a b<=b/\0<b/gc a b/\0<=a/gc a b:=by
 have g:=RB (a:=a) (b:=b) (.inr hb);have s:=Ix ha (AUE hb);have h0:0<=b/gc a b:=AUX (by omega) (by omega);refine⟨AU2 _ ha,AU2 _ (by omega), ?_,AUX ha (by omega)⟩;rcases(show b/gc a b=0\/0<b/gc a b by omega) with h | h
 · rw[h,AVO] at s
   omega
 · exact h
theorem kD:dg 1= [1]:=by decide
theorem Q7 (S:Int) {D:Int} (hD:0<D) : ∃N E:Int,Rq S D=(decide (S<0),dg N,dg E)/\0<=N/\0<E/\N<=ab S/\E<=D/\N*D=ab S*E/\(N=0↔S=0)/\gc N E=1:=by
 unfold Rq;by_cases hz:S=0
 · rw[if_pos hz]
   refine⟨0,1, ?_,by omega,by omega,Dy S,by omega, ?_,by omega,AAe (by omega)⟩
   · rw[hz,IZ,kD];rfl
   · rw[hz];simp[ab]
 · rw[if_neg hz]
   have h0:=Dy S;have hz2:= @RC S;obtain⟨g1,g2,g3,g4⟩:=ACg h0 hD;have g:=RB (a:=ab S) (b:=D) (.inr hD);have s:=Ix h0 (AUE hD);have r:=Xi h0 (AUE hD) (.inr hD);refine⟨_,_,rfl,g4,g3,g1,g2, ?_, ?_,r⟩
   · generalize gc (ab S) D=c at *
     generalize hN:ab S/c=N at *;generalize hE:D/c=E at *;rw[<-s.1,<-s.2]
     grind
   · constructor
     · intro k
       rw[k,AVO] at s;exact hz2.1 s.1.symm
     · intro k
       exact absurd k hz
def FG (s:Bool) (N:Int):Int:=if s then -N else N
theorem om {S D N E:Int} (hN:N*D=ab S*E) (h0:N=0↔S=0):FG (decide (S<0)) N*D=S*E:=by
 unfold FG;unfold ab at hN;by_cases h:S<0
 · rw[if_pos h] at hN
   rw[decide_eq_true h,if_pos rfl,AVX,hN,AVX];omega
 · rw[if_neg h] at hN
   rw[decide_eq_false h,if_neg (by decide),hN]
theorem rz {a b:List Int} (neg:Bool) (ha:Wl a) (hb:Wl b) (hla:a.length<=10000000) (hlb:b.length<=10000000) (hB:0<nv b):Ev (λk=>Fm.f k neg a b) (Rq (FG neg (nv a)) (nv b)):=by
 have na:=AS ha.1;refine Ev.bind (RA ha hb hla hlb) ?_;dsimp only;rcases(show nv a=0\/0<nv a by omega) with h | h
 · have e0:gc (nv a) (nv b)=nv b:=by rw[h,K3];exact K7 (by omega)
   have e1:Rq (FG neg (nv a)) (nv b)=(false,[],[1]):=by
    rw[h];unfold Rq FG;cases neg<;>rfl
   rw[e0,e1,h,AXS,Int.ediv_self (by omega),IZ,kD];cases neg
   · exact Ev.AM (by decide) (Ev.same rfl)
   · exact Ev.AK rfl (Ev.same rfl)
 · have hs:=Ix (show 0<=nv a by omega) (show 0<=nv b by omega)
   have hg:=RB (a:=nv a) (b:=nv b) (.inl h);have hq:0<nv a/gc (nv a) (nv b):=by
    rcases AU1 0 (nv a/gc (nv a) (nv b)) with k | k
    · exact k
    · have:=Int.mul_nonpos_of_nonpos_of_nonneg k (show 0<=gc (nv a) (nv b) by omega)
      omega
   have e1:Rq (FG neg (nv a)) (nv b)=(neg,dg (nv a/gc (nv a) (nv b)),dg (nv b/gc (nv a) (nv b))):=by
    unfold Rq;have:FG neg (nv a)≠0/\ab (FG neg (nv a))=nv a/\decide (FG neg (nv a)<0)=neg:=by
     cases neg
     · refine⟨by unfold FG;simp;omega,by unfold ab FG;simp;omega,by unfold FG;simp;omega⟩
     · refine⟨by unfold FG;simp;omega,by unfold ab FG;simp;omega,by unfold FG;simp;omega⟩
    rw[if_neg this.1,this.2.1,this.2.2]
   rw[e1];have hl:dg (nv a/gc (nv a) (nv b))≠ []:=(by rw[N6 hq];exact List.cons_ne_nil _ _);cases neg
   · exact Ev.AM (by decide) (Ev.same rfl)
   · refine Ev.AK rfl (Ev.same ?_)
     have:0<(dg (nv a/gc (nv a) (nv b))).length:=List.length_pos_iff.2 hl;rw[decide_eq_true (show((dg (nv a/gc (nv a) (nv b))).length:Int)>0 by omega)]
theorem XW {a b:List Int} (neg:Bool) (ha:Wl a):Ev (λk=>Is.f k neg a b) (if nv a=0 then 0 else if neg then -1 else 1):=by
 have na:=AS ha.1;refine Ev.bind (Hj ha) ?_;by_cases h:nv a=0
 · rw[if_pos h,h]
   exact Ev.AK rfl (Ev.same rfl)
 · rw[if_neg h]
   have:=C9 (x:=nv a) (by omega);refine Ev.AM (by omega) ?_;cases neg
   · exact Ev.AM (by decide) (Ev.same rfl)
   · exact Ev.AK rfl (Ev.same rfl)
theorem AGZ (neg:Bool) {n d:Int} (hn:0<n):Rq (FG neg n) d=(neg,dg (n/gc n d),dg (d/gc n d)):=by
 cases neg
 · show Rq n d=_
   have:ab n=n:=(by unfold ab;rw[if_neg (by omega)]);unfold Rq;rw[if_neg (show¬n=0 by omega),decide_eq_false (show¬n<0 by omega),this]
 · show Rq (-n) d=_
   have:ab (-n)=n:=(by unfold ab;rw[if_pos (by omega)];omega);unfold Rq;rw[if_neg (show¬ -n=0 by omega),decide_eq_true (show -n<0 by omega),this]
theorem AJA (neg:Bool) (d:Int):Rq (FG neg 0) d=(false,[],[1]):=by
 unfold Rq FG;cases neg<;>rfl
theorem tY {a b:List Int} (neg:Bool) (ha:Wl a) (hb:Wl b) (hla:a.length<=100000) (hlb:b.length<=100000) (hB:0<nv b) (ht:tz (nv b)<=64000):Ev (λk=>Cw.f k neg a b) (Rq (FG neg (nv a)) (nv b)):=by
 have gb:=AS ha.1;refine Ev.bind (Du ha) ?_;by_cases hz:nv a=0
 · rw[hz,AJA]
   exact Ev.AK rfl (Ev.same rfl)
 · rw[AGZ neg (by omega)]
   refine Ev.AM (λk=>hz ((C1 gb).1 (by omega))) (Ev.bind (yK ha hb hla hlb (λ_=>ht)) ?_);have g:=QU (nv a) (nv b);have gle:gc (nv a) (nv b)<=nv a:=by
    have s:=Ix gb (AUE hB);have l:=ACg (a:=nv b) (b:=nv a) (AUE hB) (by omega);rw[K3] at l;have:=AUL (show 1<=nv a/gc (nv a) (nv b) by omega) g;rw[s.1] at this;omega
   have ba:=GG ha.1;have bg:=Bq gle;have lg:=AN (gc (nv a) (nv b));have P1:=ZO ha (g:=dg (gc (nv a) (nv b))) (Av (by omega)) hla (by omega);have P2:=ZO hb (g:=dg (gc (nv a) (nv b))) (Av (by omega)) hlb (by omega);rw[AR g] at P1 P2;exact Ev.bind P1 (Ev.bind P2 (Ev.same rfl))
theorem Q9 {a b:List Int} (neg:Bool) (ha:Wl a) (hb:Wl b) (hla:a.length<=1000) (hlb:b.length<=1000) (hB:0<nv b):Ev (λk=>Cw.f k neg a b) (Rq (FG neg (nv a)) (nv b)):=by
 have bb:=GG hb.1;exact tY neg ha hb (by omega) (by omega) hB (by have:=pI hB;omega)
def Fit (S D:Int):Prop:=0<D/\bl (ab S)<=14000/\bl D<=14000
theorem Pk {S D:Int} (h:Fit S D) : ∃N E:Int,Rq S D=(decide (S<0),dg N,dg E)/\0<=N/\0<E/\bl N<=14000/\bl E<=14000/\FG (decide (S<0)) N*D=S*E/\(N=0↔S=0):=by
 obtain⟨N,E,h1,h2,h3,h4,h5,h6,h7,h8⟩:=Q7 S h.1;have:=Bq h4;have:=Bq h5;have:=h.2;exact⟨N,E,h1,h2,h3,by omega,by omega,om h6 h7,h7⟩
theorem Vd {n d:Int} (neg:Bool) (hn:0<=n) (hd:0<d) (bn:bl n<=60000) (bd:bl d<=60000):Ev (λk=>Cw.f k neg (dg n) (dg d)) (Rq (FG neg n) d):=by
 have ln:=AN n;have ld:=AN d;have:=Q9 neg (a:=dg n) (b:=dg d) (Av (by omega)) (Av (by omega)) (by omega) (by omega) (by rw[AR (by omega)];exact hd)
 rwa [AR hn,AR (by omega)] at this
theorem dB {S D:Int} (h:Fit S D):Ev (λk=>J6.f k (Rq S D).1 (Rq S D).2.1 (Rq S D).2.2) (Rq (-S) D):=by
 obtain⟨N,E,h1,h2,h3,h4,h5,h6,h7⟩:=Pk h;rw[h1];refine Ev.bind (Vd (!(decide (S<0))) h2 h3 (by omega) (by omega)) (Ev.same ?_)
 congr 1
 refine WR h3 h.1 ?_;have:FG (!(decide (S<0))) N= -(FG (decide (S<0)) N):=by
  unfold FG;cases decide (S<0)<;>simp
 rw[this,AVX,h6,AVX]
theorem dD {S D S' D':Int} (h:Fit S D) (h':Fit S' D'):Ev (λk=>J5.f k (Rq S D).1 (Rq S D).2.1 (Rq S D).2.2 (Rq S' D').1 (Rq S' D').2.1 (Rq S' D').2.2) (Rq (S*D'+S'*D) (D*D')):=by
 obtain⟨N,E,h1,h2,h3,h4,h5,h6,h7⟩:=Pk h;obtain⟨N',E',k1,k2,k3,k4,k5,k6,k7⟩:=Pk h';rw[h1,k1];have lN:=AN N;have lE:=AN E;have lN':=AN N';have lE':=AN E';have M1:=FP (a:=dg N) (b:=dg E') (Av (by omega)) (Av (by omega)) (by omega) (by omega);have M2:=FP (a:=dg N') (b:=dg E) (Av (by omega)) (Av (by omega)) (by omega) (by omega);have M3:=FP (a:=dg E) (b:=dg E') (Av (by omega)) (Av (by omega)) (by omega) (by omega);rw[AR h2,AR (AUE k3)] at M1;rw[AR k2,AR (AUE h3)] at M2;rw[AR (AUE h3),AR (AUE k3)] at M3;refine Ev.bind M1 (Ev.bind M2 (Ev.bind M3 ?_));have b1:=Dt h2 (AUE k3);have b2:=Dt k2 (AUE h3);have b3:=Dt (AUE h3) (AUE k3);have x0:0<=N*E':=AUM h2 (AUE k3);have y0:0<=N'*E:=AUM k2 (AUE h3);have d0:0<E*E':=AU3 h3 k3;have dd:0<D*D':=AU3 h.1 h'.1;have goal:Rq (FG (decide (S<0)) N*E'+FG (decide (S'<0)) N'*E) (E*E')=Rq (S*D'+S'*D) (D*D'):=by
  refine WR d0 dd ?_;generalize FG (decide (S<0)) N=σ at *;generalize FG (decide (S'<0)) N'=σ' at *;have e1:(σ*E'+σ'*E)*(D*D')=(σ*D)*(E'*D')+(σ'*D')*(E*D):=by grind
  rw[e1,h6,k6]
  grind
 rw[<-goal];clear goal M1 M2 M3;have lx:=AN (N*E');have ly:=AN (N'*E);have wx:Wl (dg (N*E')):=Av (by omega);have wy:Wl (dg (N'*E)):=Av (by omega);have s1:FG (decide (S<0)) N*E'=FG (decide (S<0)) (N*E'):=by unfold FG;split;exact AVX ..;rfl
 have s2:FG (decide (S'<0)) N'*E=FG (decide (S'<0)) (N'*E):=by unfold FG;split;exact AVX ..;rfl
 rw[s1,s2];generalize N*E'=x at *;generalize N'*E=y at *;generalize E*E'=d at *;generalize decide (S<0)=s at *;generalize decide (S'<0)=s' at *;clear h6 k6 s1 s2;dsimp only;by_cases hs:s=s'
 · subst hs
   refine Ev.AK (by simp) ?_;have A:=Ot wx wy (by omega) (by omega);rw[AR x0,AR y0] at A;have ba:=Tt x0 y0 (m:=28000) (by omega) (by omega);refine Ev.bind A (Ev.bind (Vd s (by omega) d0 (by omega) (by omega)) (Ev.same ?_));unfold FG;cases s
   · rfl
   · simp only[if_true]
     rw[show -(x+y)= -x+ -y by omega]
 · refine Ev.AM (by simp[hs]) ?_
   have C:=GM wx wy;rw[AR x0,AR y0] at C;refine Ev.bind C ?_;by_cases hc:y<=x
   · refine Ev.AK (by unfold Gt;split;omega;split<;>omega) ?_
     have B:=HJ wx wy (by omega) (by omega) (by rw[AR x0,AR y0];exact hc);rw[AR x0,AR y0] at B;have bb:=Bq (show x-y<=x by omega);refine Ev.bind B (Ev.bind (Vd s (by omega) d0 (by omega) (by omega)) (Ev.same ?_));unfold FG;cases s<;>cases s'
     · exact absurd rfl hs
     · simp only[if_true,AVI,if_false];rfl
     · simp only[if_true,AVI,if_false];rw[show -(x-y)= -x+y by omega]
     · exact absurd rfl hs
   · refine Ev.AM (by unfold Gt;rw[if_pos (by omega)];omega) ?_
     have B:=HJ wy wx (by omega) (by omega) (by rw[AR x0,AR y0];omega);rw[AR x0,AR y0] at B;have bb:=Bq (show y-x<=y by omega);refine Ev.bind B (Ev.bind (Vd s' (by omega) d0 (by omega) (by omega)) (Ev.same ?_));unfold FG;cases s<;>cases s'
     · exact absurd rfl hs
     · simp only[if_true,AVI,if_false];rw[show -(y-x)=x+ -y by omega]
     · simp only[if_true,AVI,if_false];rw[show y-x= -x+y by omega]
     · exact absurd rfl hs
theorem ACf {S D:Int} (h:Fit S D):Fit (-S) D:=by
 have:ab (-S)=ab S:=by unfold ab;split<;>split<;>omega
 unfold Fit;rw[this];exact h
theorem dF {S D S' D':Int} (h:Fit S D) (h':Fit S' D'):Ev (λk=>J7.f k (Rq S D).1 (Rq S D).2.1 (Rq S D).2.2 (Rq S' D').1 (Rq S' D').2.1 (Rq S' D').2.2) (Rq (S*D'-S'*D) (D*D')):=by
 refine Ev.bind (dB h') (Ev.bind (dD h (ACf h')) (Ev.same ?_));rw[AVX];rfl
def AAf (x:Int):Int:=if x=0 then 0 else if x<0 then -1 else 1
theorem tZ {S D:Int} (hD:0<D):KY.f (Rq S D).1 (Rq S D).2.1 (Rq S D).2.2=some (AAf S):=by
 obtain⟨N,E,h1,h2,h3,h4,h5,h6,h7,h8⟩:=Q7 S hD;rw[h1];unfold KY.f AAf;show(if((dg N).length:Int)=0 then some 0 else if decide (S<0)=true then some (-1) else some 1)=_;by_cases hz:S=0
 · rw[if_pos hz,if_pos (by rw[h7.2 hz];rfl)]
 · rw[if_neg hz,if_neg (λk=>hz (h7.1 ((C1 h2).1 (by omega))))]
   by_cases hs:S<0
   · rw[if_pos hs,if_pos (decide_eq_true hs)]
   · rw[if_neg hs,if_neg (by rw[decide_eq_false hs];decide)]
theorem xS {S D S' D':Int} (h:Fit S D) (h':Fit S' D'):Ev (λk=>N4.f k (Rq S D).1 (Rq S D).2.1 (Rq S D).2.2 (Rq S' D').1 (Rq S' D').2.1 (Rq S' D').2.2) (AAf (S*D'-S'*D)) :=
 Ev.bind (dF h h') (Ev.AP (tZ (AU3 h.1 h'.1)) (Ev.same rfl))
theorem nX {a b:List Int} (hl:a.length=b.length) (ha:a.length<=1000000) (d:Nat) : ∀i:Nat,i+d=a.length->a.take i=b.take i->Ev (λk=>Cy.l0 k a b (a.length:Int) i) (decide (a=b)):=by
 induction d with
 | zero =>
   intro i hi he;refine Ev.step (λk=>Cy.l0.eq_2 ..) (Ev.AM (by omega) (Ev.same ?_));rw[AUS (by omega),AUS (by omega)] at he;rw[decide_eq_true he]
 | succ d ih =>
   intro i hi he;have e:wrap64 ((i:Int)+1)=((i+1:Nat):Int):=(by rw[AG (by omega) (by omega)];omega);refine Ev.step (λk=>Cy.l0.eq_2 ..) (Ev.AK (by omega) (Ev.AK (by omega) (Ev.AK (by omega) (Ev.AK (by omega) ?_))));by_cases h:rd a (i:Int)=rd b (i:Int)
   · refine Ev.AK h ?_
     rw[e];exact ih (i+1) (by omega) (by rw[JY (by omega),JY (by omega),he,h])
   · refine Ev.AM h (Ev.same ?_)
     rw[decide_eq_false (λk=>h (by rw[k]))]
theorem Wh {a b:List Int} (ha:a.length<=1000000):Ev (λk=>Cy.f k a b) (decide (a=b)):=by
 by_cases h:(a.length:Int)=(b.length:Int)
 · exact Ev.AK h (nX (by omega) ha a.length 0 (by omega) rfl)
 · exact Ev.AM h (Ev.same (by rw[decide_eq_false (λk=>h (by rw[k]))]))
theorem Yn {s s':Bool} {a b a' b':List Int} (ha:a.length<=1000000) (hb:b.length<=1000000):Ev (λk=>JW.f k s a b s' a' b') (decide ((s,a,b)=(s',a',b'))):=by
 by_cases hs:s=s'
 · refine Ev.AK (by rw[hs];simp) (Ev.bind (Wh ha) ?_)
   by_cases h1:a=a'
   · refine Ev.AK (decide_eq_true h1) (Ev.bind (Wh hb) (Ev.same ?_))
     congr 1
     rw[hs,h1];simp
   · refine Ev.AM (by rw[decide_eq_false h1];decide) (Ev.same ?_)
     rw[decide_eq_false];simp[h1]
 · refine Ev.AM (by simp[hs]) (Ev.same ?_)
   rw[decide_eq_false];simp[hs]
end Go.Proofs.YtjocbnjpjihpnaaGreat.M
