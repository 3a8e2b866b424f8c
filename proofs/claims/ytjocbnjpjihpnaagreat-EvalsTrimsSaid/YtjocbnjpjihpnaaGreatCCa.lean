/- What the functions answer, over plain numbers. -/
import Derived.Laws.BitsLemmas
import Derived.Test.YtjocbnjpjihpnaaGreatWWa
import Derived.Test.YtjocbnjpjihpnaaGreatBB
namespace Go.Proofs.YtjocbnjpjihpnaaGreat.M
open Go.RowKit Go.Proofs.YtjocbnjpjihpnaaGreat.P Go.Proofs.YtjocbnjpjihpnaaGreatW.PrintWords Go.Proofs.YtjocbnjpjihpnaaGreatW.PrintLast Go.Proofs.YtjocbnjpjihpnaaGreatW.PrintMore Go.Proofs.YtjocbnjpjihpnaaGreatW.Abs
set_option linter.unusedVariables false

theorem wu (n:Int):IntKind.u64.wrap n=n%18446744073709551616:=by simp [IntKind.wrap,IntKind.bits,IntKind.signed]
theorem wu_id {n:Int} (h0:0≤n) (h1:n<18446744073709551616):IntKind.u64.wrap n=n:=by rw [wu];omega
theorem w64_id {n:Int} (h0 : -9223372036854775808≤n) (h1:n≤9223372036854775807):wrap64 n=n:=by unfold wrap64;omega
theorem wu_fits : ∀ n:Int,0≤n→n<2^64→IntKind.u64.wrap n=n:=fun n h0 h1=>wu_id h0 (by omega)
theorem wf_u64 {x:Int} (h:(Lit.int .u64 x).wf=true):0≤x∧x<18446744073709551616:=by
 simp [Lit.wf,Go.IntKind.min,IntKind.max,IntKind.bits,IntKind.signed] at h
 omega
theorem and_mask (i:Nat) (hi:i≤64) (x:Int) (h0:0≤x) (h1:x<18446744073709551616):Go.bits .and .u64 x (2^i-1)=x%2^i :=
 bits_mask .u64 64 (by decide) wu_fits i hi x h0 (by omega)
theorem and32 (x:Int) (h0:0≤x) (h1:x<18446744073709551616):Go.bits .and .u64 x 4294967295=x%4294967296:=and_mask 32 (by decide) x h0 h1
theorem and1 (x:Int) (h0:0≤x) (h1:x<18446744073709551616):Go.bits .and .u64 x 1=x%2:=and_mask 1 (by decide) x h0 h1
theorem and52 (x:Int) (h0:0≤x) (h1:x<18446744073709551616):Go.bits .and .u64 x 4503599627370495=x%4503599627370496:=and_mask 52 (by decide) x h0 h1
theorem and11 (x:Int) (h0:0≤x) (h1:x<18446744073709551616):Go.bits .and .u64 x 2047=x%2048:=and_mask 11 (by decide) x h0 h1
theorem or_join (i:Nat) (x y:Int) (hx0:0≤x) (hx:x%2^i=0) (hx1:x<18446744073709551616) (hy0:0≤y) (hy:y<2^i) (hy1:y<18446744073709551616):Go.bits .or .u64 x y=x+y :=
 bits_join .u64 64 (by decide) wu_fits i x y hx0 hx (by omega) hy0 hy (by omega)
theorem or_nat (a b:Nat) (ha:a<2^64) (hb:b<2^64):Go.bits .or .u64 a b=((a ||| b:Nat):Int):=(bits_nat .u64 64 (by decide) wu_fits a b ha hb).2
theorem and_nat (a b:Nat) (ha:a<2^64) (hb:b<2^64):Go.bits .and .u64 a b=((a &&& b:Nat):Int):=(bits_nat .u64 64 (by decide) wu_fits a b ha hb).1
theorem or_comm (x y:Int) (hx0:0≤x) (hx1:x<18446744073709551616) (hy0:0≤y) (hy1:y<18446744073709551616):Go.bits .or .u64 x y=Go.bits .or .u64 y x:=by
 obtain ⟨a,rfl⟩:=Int.eq_ofNat_of_zero_le hx0
 obtain ⟨b,rfl⟩:=Int.eq_ofNat_of_zero_le hy0
 rw [or_nat a b (by omega) (by omega),or_nat b a (by omega) (by omega),Nat.or_comm]

theorem shr_u (x y:Int) (h:y≤64):shr .u64 x y=x/2^y.toNat:=by
 unfold shr
 rw [show IntKind.bits .u64=64 from rfl,Nat.min_eq_left (by omega)]
theorem shl_u (x y:Int) (h:y≤64):shl .u64 x y=x*2^y.toNat%18446744073709551616:=by
 unfold shl
 rw [wu,show IntKind.bits .u64=64 from rfl,Nat.min_eq_left (by omega)]

theorem _root_.Go.Proofs.YtjocbnjpjihpnaaGreatW.PrintWords.Ev.ifp {α:Type} {c:Prop} [Decidable c] {f g:Nat→Option α} {r:α} (h:c) (k:Ev f r):Ev (fun n=>if c then f n else g n) r:=by
 obtain ⟨K,k⟩:=k
 exact ⟨K,fun n hn=>(if_pos h).trans (k n hn)⟩
theorem _root_.Go.Proofs.YtjocbnjpjihpnaaGreatW.PrintWords.Ev.ifn {α:Type} {c:Prop} [Decidable c] {f g:Nat→Option α} {r:α} (h : ¬ c) (k:Ev g r):Ev (fun n=>if c then f n else g n) r:=by
 obtain ⟨K,k⟩:=k
 exact ⟨K,fun n hn=>(if_neg h).trans (k n hn)⟩
theorem _root_.Go.Proofs.YtjocbnjpjihpnaaGreatW.PrintWords.Ev.same {α:Type} {x:Option α} {r:α} (h:x=some r):Ev (fun _=>x) r:=⟨0,fun _ _=>h⟩
theorem _root_.Go.Proofs.YtjocbnjpjihpnaaGreatW.PrintWords.Ev.eqr {α:Type} {g:Nat→Option α} {r r':α} (h:Ev g r) (e:r=r'):Ev g r':=e▸h
theorem _root_.Go.Proofs.YtjocbnjpjihpnaaGreatW.PrintWords.Ev.eqv {α:Type} {g f:Nat→Option α} {r:α} (h : ∀ k,g k=f k) (k:Ev f r):Ev g r:=by
 obtain rfl:g=f:=funext h
 exact k
theorem _root_.Go.Proofs.YtjocbnjpjihpnaaGreatW.PrintWords.Ev.bindc {α β:Type} {x:Option α} {f:Nat→α→Option β} {a:α} {r:β} (h:x=some a) (k:Ev (fun n=>f n a) r):Ev (fun n=>x.bind (f n)) r:=Ev.bind (Ev.same h) k

def bl (x:Int):Int:=if x≤0 then 0 else ((Nat.log2 x.toNat+1:Nat):Int)
theorem bl_zero:bl 0=0:=rfl
theorem bl_nonneg (x:Int):0≤bl x:=by unfold bl;split<;>omega
theorem bl_pos {x:Int} (h:0<x):0<bl x:=by unfold bl;rw [if_neg (by omega)];omega
theorem bl_lt (x:Int):x<2^(bl x).toNat:=by
 unfold bl
 split
 · simp only [Int.toNat_zero,Int.pow_zero];omega
 · rw [Int.toNat_natCast]
   have h:= @Nat.lt_log2_self x.toNat
   have h3:((x.toNat:Nat):Int)<((2^(Nat.log2 x.toNat+1):Nat):Int):=by exact_mod_cast h
   have h4:((2^(Nat.log2 x.toNat+1):Nat):Int)=(2:Int)^(Nat.log2 x.toNat+1):=by push_cast;rfl
   rw [← h4]
   omega
theorem bl_le {x:Int} (h:0<x):2^(bl x-1).toNat≤x:=by
 unfold bl
 rw [if_neg (by omega)]
 have h1:=Nat.log2_self_le (n:=x.toNat) (by omega)
 have h3:((2^(Nat.log2 x.toNat):Nat):Int)≤((x.toNat:Nat):Int):=by exact_mod_cast h1
 have h4:((2^(Nat.log2 x.toNat):Nat):Int)=(2:Int)^(Nat.log2 x.toNat):=by push_cast;rfl
 rw [h4] at h3
 have e:(((Nat.log2 x.toNat+1:Nat):Int)-1).toNat=Nat.log2 x.toNat:=by omega
 rw [e]
 omega
theorem pow_le_pow {a b:Nat} (h:a≤b):(2:Int)^a≤2^b:=by
 have:=Nat.pow_le_pow_right (n:=2) (by decide) h
 have h2:((2^a:Nat):Int)≤((2^b:Nat):Int):=by exact_mod_cast this
 rw [Int.natCast_pow,Int.natCast_pow] at h2
 exact h2
theorem pow_pos (a:Nat):(0:Int)<2^a:=by
 have:=Nat.two_pow_pos a
 have h2:(0:Int)<((2^a:Nat):Int):=by exact_mod_cast this
 rw [Int.natCast_pow] at h2
 exact h2
theorem pow_lt_of {a b:Nat} (h:(2:Int)^a<2^b):a<b:=by
 rcases Nat.lt_or_ge a b with h1 | h1
 · exact h1
 · have:=pow_le_pow h1
   omega
theorem bl_eq {x:Int} {n:Nat} (h1:2^n≤x) (h2:x<2^(n+1)):bl x=n+1:=by
 have hp:=pow_pos n
 have hx:0<x:=by omega
 have a1:=bl_lt x
 have a2:=bl_le hx
 have a3:=bl_pos hx
 have:n<(bl x).toNat:=pow_lt_of (by omega)
 have:(bl x-1).toNat<n+1:=pow_lt_of (by omega)
 omega
theorem bl_le_of {x:Int} {n:Nat} (h:x<2^n):bl x≤n:=by
 rcases Int.lt_or_le 0 x with hx | hx
 · have a2:=bl_le hx
   have:(bl x-1).toNat<n:=pow_lt_of (by omega)
   omega
 · have:bl x=0:=by unfold bl;rw [if_pos hx]
   omega
theorem bl_64 {x:Int} (h:x<18446744073709551616):bl x≤64:=bl_le_of (n:=64) (by omega)
theorem bl_shr {x:Int} {s:Nat} (h:2^s≤x):bl x=bl (x/2^s)+s:=by
 have hp:=pow_pos s
 have hq:1≤x/2^s:=by rw [Int.le_ediv_iff_mul_le hp];omega
 have a1:=bl_lt (x/2^s)
 have a2:=bl_le (x:=x/2^s) (by omega)
 have a3:=bl_pos (x:=x/2^s) (by omega)
 obtain ⟨n,hn⟩ : ∃ n:Nat,bl (x/2^s)=n+1:=⟨(bl (x/2^s)-1).toNat,by omega⟩
 rw [hn] at a1 a2 ⊢
 have e1:((n:Int)+1).toNat=n+1:=by omega
 have e2:((n:Int)+1-1).toNat=n:=by omega
 rw [e1] at a1
 rw [e2] at a2
 have b1:2^n*2^s≤x:=(Int.le_ediv_iff_mul_le hp).1 a2
 have b2:x<2^(n+1)*2^s:=(Int.ediv_lt_iff_lt_mul hp).1 a1
 rw [← Int.pow_add] at b1 b2
 rw [bl_eq (n:=n+s) b1 (by rwa [show n+s+1=n+1+s by omega])]
 omega
def U (x:Int):Prop:=0≤x∧x<18446744073709551616
def Ws (l:List Int):Prop:= ∀ x∈l,U x
def Wl (l:List Int):Prop:=Ws l∧l.length≤1000000000
def nv:List Int→Int
 | []=>0
 | x::l=>x+18446744073709551616*nv l
theorem nv_cons (x:Int) (l:List Int):nv (x::l)=x+18446744073709551616*nv l:=rfl
def Wp (n:Nat):Int:=18446744073709551616^n

theorem Wp_zero:Wp 0=1:=rfl
theorem Wp_succ (n:Nat):Wp (n+1)=18446744073709551616*Wp n:=by unfold Wp;rw [Int.pow_succ,Int.mul_comm]
theorem Wp_pos (n:Nat):0<Wp n:=by
 induction n with
 | zero=>decide
 | succ n ih=>rw [Wp_succ];omega
theorem Wp_add (a b:Nat):Wp (a+b)=Wp a*Wp b:=by unfold Wp;rw [Int.pow_add]
theorem Wp_two (n:Nat):Wp n=2^(64*n):=by
 unfold Wp
 rw [Int.pow_mul]
 rfl
theorem Wp_le {a b:Nat} (h:a≤b):Wp a≤Wp b:=by rw [Wp_two,Wp_two];exact pow_le_pow (by omega)

theorem Ws_nil:Ws []:=fun x h=>by simp at h
theorem Ws_cons {x:Int} {l:List Int} :Ws (x::l)↔U x∧Ws l:=by unfold Ws;simp
theorem Ws_app {a b:List Int} :Ws (a++b)↔Ws a∧Ws b:=by
 unfold Ws
 simp only [List.mem_append]
 exact ⟨fun h=>⟨fun x hx=>h x (.inl hx),fun x hx=>h x (.inr hx)⟩,fun h x hx=>hx.elim (h.1 x) (h.2 x)⟩
theorem Ws_take {l:List Int} (h:Ws l) (n:Nat):Ws (l.take n):=fun x hx=>h x (List.mem_of_mem_take hx)
theorem Ws_drop {l:List Int} (h:Ws l) (n:Nat):Ws (l.drop n):=fun x hx=>h x (List.mem_of_mem_drop hx)
theorem Ws_one {x:Int} (h:U x):Ws [x]:=fun y hy=>by simp at hy;rw [hy];exact h
theorem Ws_zeros (n:Nat):Ws (List.replicate n 0):=fun x hx=>by rw [List.eq_of_mem_replicate hx];unfold U;omega
theorem U_rd {l:List Int} (h:Ws l) (i:Int):U (rd l i):=by
 unfold rd
 rw [List.getD_eq_getElem?_getD]
 rcases Nat.lt_or_ge i.toNat l.length with hi | hi
 · rw [List.getElem?_eq_getElem hi];exact h _ (List.getElem_mem hi)
 · rw [List.getElem?_eq_none hi];unfold U;simp

theorem nv_nonneg {l:List Int} (h:Ws l):0≤nv l:=by
 induction l with
 | nil=>exact Int.le_refl 0
 | cons x l ih =>
   have h1:=Ws_cons.1 h
   have h2:=ih h1.2
   have h3:=h1.1.1
   rw [nv_cons]
   omega
theorem nv_lt {l:List Int} (h:Ws l):nv l<Wp l.length:=by
 induction l with
 | nil=>decide
 | cons x l ih =>
   have h1:=Ws_cons.1 h
   have h2:=ih h1.2
   have h3:=h1.1.2
   rw [List.length_cons,Wp_succ,nv_cons]
   omega
theorem nv_app (a b:List Int):nv (a++b)=nv a+Wp a.length*nv b:=by
 induction a with
 | nil=>simp [nv,Wp_zero]
 | cons x a ih =>
   rw [List.cons_append,List.length_cons,Wp_succ,nv_cons,nv_cons,ih]
   grind
theorem nv_one (x:Int):nv [x]=x:=by rw [nv_cons];show x+18446744073709551616*0=x;omega
theorem nv_snoc (a:List Int) (x:Int):nv (a++ [x])=nv a+Wp a.length*x:=by rw [nv_app,nv_one]
theorem nv_zeros (n:Nat):nv (List.replicate n 0)=0:=by
 induction n with
 | zero=>rfl
 | succ n ih=>rw [List.replicate_succ,nv_cons,ih];rfl
theorem take_rd {l:List Int} {i:Nat} (h:i<l.length):l.take (i+1)=l.take i++ [rd l (i:Int)]:=by
 rw [List.take_succ_eq_append_getElem h]
 unfold rd
 rw [Int.toNat_natCast,List.getD_eq_getElem?_getD,List.getElem?_eq_getElem h]
 rfl
theorem nv_take_succ {l:List Int} {i:Nat} (h:i<l.length):nv (l.take (i+1))=nv (l.take i)+Wp i*rd l (i:Int):=by
 rw [take_rd h,nv_snoc,List.length_take,Nat.min_eq_left (by omega)]
theorem nv_split (l:List Int) (i:Nat):nv l=nv (l.take i)+Wp (min i l.length)*nv (l.drop i):=by
 have:=nv_app (l.take i) (l.drop i)
 rw [List.take_append_drop,List.length_take] at this
 exact this

def dgF:Nat→Int→List Int
 | 0,_=> []
 | k+1,n=>if n≤0 then [] else n%18446744073709551616::dgF k (n/18446744073709551616)
def dg (n:Int):List Int:=dgF n.toNat n
theorem dgF_nil (k:Nat) {n:Int} (h:n≤0):dgF k n= []:=by
 cases k with
 | zero=>rfl
 | succ k=>unfold dgF;rw [if_pos h]
theorem dgF_eq : ∀ (k j:Nat) (n:Int),n.toNat≤k→n.toNat≤j→dgF k n=dgF j n
 | 0,j,n,hk,_=>by rw [dgF_nil 0 (by omega),dgF_nil j (by omega)]
 | k+1,0,n,_,hj=>by rw [dgF_nil _ (by omega),dgF_nil 0 (by omega)]
 | k+1,j+1,n,hk,hj=>by
   unfold dgF
   by_cases h:n≤0
   · rw [if_pos h,if_pos h]
   · rw [if_neg h,if_neg h,dgF_eq k j _ (by omega) (by omega)]
theorem dg_nil {n:Int} (h:n≤0):dg n= []:=dgF_nil _ h
theorem dg_zero:dg 0= []:=rfl
theorem dg_pos {n:Int} (h:0<n):dg n=n%18446744073709551616::dg (n/18446744073709551616):=by
 unfold dg
 obtain ⟨k,hk⟩ : ∃ k,n.toNat=k+1:=⟨n.toNat-1,by omega⟩
 rw [hk]
 conv=>lhs;unfold dgF
 rw [if_neg (by omega),dgF_eq k _ _ (by omega) (Nat.le_refl _)]
theorem dg_ind {P:Int→Prop} (h0:P 0) (hs : ∀ n,0<n→P (n/18446744073709551616)→P n) (n:Int) (hn:0≤n):P n:=by
 have key : ∀ (k:Nat) (n:Int),0≤n→n.toNat≤k→P n:=by
  intro k
  induction k with
  | zero=>intro n h1 h2;obtain rfl:n=0:=by omega
          exact h0
  | succ k ih =>
    intro n h1 h2
    rcases (show n=0∨0<n by omega) with rfl | h
    · exact h0
    · exact hs n h (ih _ (by omega) (by omega))
 exact key _ n hn (Nat.le_refl _)
theorem dg_Ws (n:Int):Ws (dg n):=by
 rcases Int.lt_or_le n 0 with h | h
 · rw [dg_nil (by omega)];exact Ws_nil
 · refine dg_ind (P:=fun n=>Ws (dg n)) Ws_nil (fun n hn ih=> ?_) n h
   rw [dg_pos hn]
   exact Ws_cons.2 ⟨by unfold U;omega,ih⟩
theorem nv_dg {n:Int} (h:0≤n):nv (dg n)=n:=by
 refine dg_ind (P:=fun n=>nv (dg n)=n) rfl (fun n hn ih=> ?_) n h
 rw [dg_pos hn,nv_cons,ih]
 omega
def Cn (l:List Int):Prop:=l= []∨l.getLast? ≠some 0
theorem dg_Cn {n:Int} (h:0≤n):Cn (dg n):=by
 refine dg_ind (P:=fun n=>Cn (dg n)) (.inl rfl) (fun n hn ih=> ?_) n h
 rw [dg_pos hn]
 refine .inr ?_
 rcases ih with ih | ih
 · have h1:=nv_dg (n:=n/18446744073709551616) (by omega)
   rw [ih] at h1 ⊢
   unfold nv at h1
   simp
   omega
 · cases hd:dg (n/18446744073709551616) with
   | nil =>
     have h1:=nv_dg (n:=n/18446744073709551616) (by omega)
     rw [hd] at h1
     unfold nv at h1
     simp
     omega
   | cons y l =>
     rw [hd] at ih
     rw [List.getLast?_cons_cons]
     exact ih
theorem Cn_tail {x:Int} {l:List Int} (h:Cn (x::l)):Cn l:=by
 cases l with
 | nil=>exact .inl rfl
 | cons y l =>
   rcases h with h | h
   · cases h
   · rw [List.getLast?_cons_cons] at h;exact .inr h
theorem nv_pos_of {l:List Int} (h:Ws l) (hc:Cn l) (hne:l≠ []):0<nv l:=by
 induction l with
 | nil=>exact absurd rfl hne
 | cons x l ih =>
   have h1:=Ws_cons.1 h
   unfold U at h1
   rw [nv_cons]
   cases l with
   | nil =>
     rcases hc with hc | hc
     · cases hc
     · simp at hc;show 0<x+18446744073709551616*0;omega
   | cons y l =>
     have:=ih h1.2 (Cn_tail hc) (by simp)
     omega
theorem dg_nv {l:List Int} (h:Ws l) (hc:Cn l):dg (nv l)=l:=by
 induction l with
 | nil=>rfl
 | cons x l ih =>
   have h0:=nv_pos_of h hc (by simp)
   have h1:=Ws_cons.1 h
   have h2:=nv_nonneg h1.2
   unfold U at h1
   have e:nv (x::l)=x+18446744073709551616*nv l:=rfl
   rw [dg_pos h0,e,show (x+18446744073709551616*nv l)%18446744073709551616=x by omega,show (x+18446744073709551616*nv l)/18446744073709551616=nv l by omega,ih h1.2 (Cn_tail hc)]
theorem dg_inj {a b:Int} (ha:0≤a) (hb:0≤b) (h:dg a=dg b):a=b:=by rw [← nv_dg ha,h,nv_dg hb]
theorem dg_len_le {n:Int} {m:Nat} (h:n<Wp m):(dg n).length≤m:=by
 induction m generalizing n with
 | zero=>rw [dg_nil (by rw [Wp_zero] at h;omega)];simp
 | succ m ih =>
   rcases Int.lt_or_le 0 n with h1 | h1
   · rw [dg_pos h1,List.length_cons]
     rw [Wp_succ] at h
     have:= @ih (n/18446744073709551616) (by omega)
     omega
   · rw [dg_nil h1];simp
theorem le_dg_len {n:Int} {m:Nat} (h:Wp m≤n):m<(dg n).length:=by
 have hp:=Wp_pos m
 have h1:=nv_lt (dg_Ws n)
 rw [nv_dg (by omega)] at h1
 rcases Nat.lt_or_ge m (dg n).length with h2 | h2
 · exact h2
 · have:=Wp_le h2;omega
theorem dg_len_lt {n:Int} (h:0<n):Wp ((dg n).length-1)≤n:=by
 rcases Int.lt_or_le n (Wp ((dg n).length-1)) with h1 | h1
 · have:=dg_len_le h1
   have h2:(dg n).length≠0:=by rw [dg_pos h];simp
   omega
 · exact h1
theorem lt_Wp_dg {n:Int} (h:0≤n):n<Wp (dg n).length:=by
 have h1:=nv_lt (dg_Ws n)
 rwa [nv_dg h] at h1
theorem bl_mono {x y:Int} (h:x≤y):bl x≤bl y:=by
 have h1:=bl_lt y
 have:=bl_le_of (x:=x) (n:=(bl y).toNat) (by omega)
 have:=bl_nonneg y
 omega
theorem bl_add {x y:Int} (hx:0≤x) (hy:0≤y) {m:Int} (h1:bl x≤m) (h2:bl y≤m):bl (x+y)≤m+1:=by
 have a1:=bl_lt x
 have a2:=bl_lt y
 have n1:=bl_nonneg x
 have n2:=bl_nonneg y
 obtain ⟨k,rfl⟩:=Int.eq_ofNat_of_zero_le (show 0≤m by omega)
 have b1:=pow_le_pow (a:=(bl x).toNat) (b:=k) (by omega)
 have b2:=pow_le_pow (a:=(bl y).toNat) (b:=k) (by omega)
 have:=bl_le_of (x:=x+y) (n:=k+1) (by rw [Int.pow_succ];omega)
 omega
theorem bl_mul {x y:Int} (hx:0≤x) (hy:0≤y):bl (x*y)≤bl x+bl y:=by
 have a1:=bl_lt x
 have a2:=bl_lt y
 have n1:=bl_nonneg x
 have n2:=bl_nonneg y
 have p1:=pow_pos (bl x).toNat
 have h:x*y<2^((bl x).toNat+(bl y).toNat):=by
  rw [Int.pow_add]
  rcases (show y=0∨0<y by omega) with rfl | h
  · rw [Int.mul_zero];exact Int.mul_pos p1 (pow_pos _)
  · exact Int.mul_lt_mul a1 (by omega) h (by omega)
 have:=bl_le_of h
 omega
theorem dg_len_bl (n:Int):((dg n).length:Int)≤(bl n+63)/64:=by
 have h1:=bl_lt n
 have n1:=bl_nonneg n
 obtain ⟨k,hk⟩:=Int.eq_ofNat_of_zero_le (show 0≤(bl n+63)/64 by omega)
 have h2:n<Wp k:=by
  rw [Wp_two]
  have:=pow_le_pow (a:=(bl n).toNat) (b:=64*k) (by omega)
  omega
 have:=dg_len_le h2
 omega
theorem Wl_dg {n:Int} (h:bl n≤60000000000):Wl (dg n):=⟨dg_Ws n,by have:=dg_len_bl n;omega⟩
theorem bl_nv {l:List Int} (h:Ws l):bl (nv l)≤64*l.length:=by
 have h1:=nv_lt h
 rw [Wp_two] at h1
 have:=bl_le_of h1
 omega
theorem limb_Add_c {a b c:Int} (ha:U a) (hb:U b) (hc:U c):limb_Add.f a b c=some ((a+b+c)%18446744073709551616,(a+b+c)/18446744073709551616):=by
 unfold U at ha hb hc
 unfold limb_Add.f
 simp only [wu]
 split<;>split<;>(simp only [Option.some.injEq,Prod.mk.injEq];omega)
theorem limb_Sub_c {a b c:Int} (ha:U a) (hb:U b) (hc:U c):limb_Sub.f a b c=some ((a-b-c)%18446744073709551616,-((a-b-c)/18446744073709551616)):=by
 unfold U at ha hb hc
 unfold limb_Sub.f
 simp only [wu]
 split<;>split<;>(simp only [Option.some.injEq,Prod.mk.injEq];omega)
theorem mul_halves (a b:Int):a*b=(a/4294967296)*(b/4294967296)*18446744073709551616+((a%4294967296)*(b/4294967296)+(a/4294967296)*(b%4294967296))*4294967296+(a%4294967296)*(b%4294967296):=by
 have h1:=Int.mul_ediv_add_emod a 4294967296
 have h2:=Int.mul_ediv_add_emod b 4294967296
 generalize a/4294967296=a1 at *
 generalize b/4294967296=b1 at *
 generalize a%4294967296=a0 at *
 generalize b%4294967296=b0 at *
 subst h1 h2
 grind
theorem mul_bound {x y m n:Int} (hx0:0≤x) (hx:x≤m) (hy0:0≤y) (hy:y≤n):0≤x*y∧x*y≤m*n :=
 ⟨Int.mul_nonneg hx0 hy0,Int.mul_le_mul hx hy hy0 (by omega)⟩
theorem limb_Mul_c {a b:Int} (ha:U a) (hb:U b):limb_Mul.f a b=some (a*b/18446744073709551616,a*b%18446744073709551616):=by
 unfold U at ha hb
 unfold limb_Mul.f
 have e:=mul_halves a b
 have k1:=mul_bound (x:=a%4294967296) (y:=b%4294967296) (m:=4294967295) (n:=4294967295) (by omega) (by omega) (by omega) (by omega)
 have k2:=mul_bound (x:=a%4294967296) (y:=b/4294967296) (m:=4294967295) (n:=4294967295) (by omega) (by omega) (by omega) (by omega)
 have k3:=mul_bound (x:=a/4294967296) (y:=b%4294967296) (m:=4294967295) (n:=4294967295) (by omega) (by omega) (by omega) (by omega)
 have k4:=mul_bound (x:=a/4294967296) (y:=b/4294967296) (m:=4294967295) (n:=4294967295) (by omega) (by omega) (by omega) (by omega)
 rw [and32 a (by omega) (by omega),and32 b (by omega) (by omega)]
 generalize a%4294967296*(b%4294967296)=p at *
 generalize a%4294967296*(b/4294967296)=q at *
 generalize a/4294967296*(b%4294967296)=r at *
 generalize a/4294967296*(b/4294967296)=t at *
 rw [e]
 clear e ha hb
 simp only [Int.reduceMul] at *
 simp only [wu]
 rw [and32 _ (by omega) (by omega),and32 _ (by omega) (by omega),or_join 32 _ _ (by omega) (by omega) (by omega) (by omega) (by omega) (by omega)]
 simp only [Option.some.injEq,Prod.mk.injEq]
 omega

theorem len_base (k:Nat) (x n:Int) (h0:0≤x) (h1:x<2) (hn0:0≤n) (hn1:n≤63):limb_Len.l0 (k+1) x n 0=some (n+bl x):=by
 simp only [limb_Len.l0]
 rw [if_neg (by omega),w64_id (n:=x) (by omega) (by omega),w64_id (by omega) (by omega)]
 rcases (show x=0∨x=1 by omega) with rfl | rfl
 · rfl
 · have:bl 1=1:=rfl
   rw [this]
theorem len_step (k s s':Nat) (hs:0<s) (hs2:s≤32) (hs':s'=s/2)
 (H : ∀ x n:Int,0≤x→x<2^s→0≤n→n≤64-s→limb_Len.l0 k x n s'=some (n+bl x))
 (x n:Int) (h0:0≤x) (h1:x<2^(2*s)) (hn0:0≤n) (hn1:n≤64-2*s):limb_Len.l0 (k+1) x n s=some (n+bl x):=by
 have hp:=pow_pos s
 have hd:((s:Nat):Int)/2=((s':Nat):Int):=by omega
 simp only [limb_Len.l0]
 rw [if_pos (by omega),if_pos (by omega),shr_u _ _ (by omega),Int.toNat_natCast,hd]
 by_cases hq:x/2^s>0
 · have hle:2^s≤x:=by
    rcases Int.lt_or_le x (2^s) with h | h
    · rw [Int.ediv_eq_zero_of_lt h0 h] at hq;omega
    · exact h
   rw [if_pos hq,w64_id (by omega) (by omega),H _ _ (by omega) ?_ (by omega) (by omega),bl_shr hle]
   · congr 1;omega
   · rw [Int.ediv_lt_iff_lt_mul hp,← Int.pow_add]
     rwa [show s+s=2*s by omega]
 · have hlt:x<2^s:=by
    rcases Int.lt_or_le x (2^s) with h | h
    · exact h
    · have:1≤x/2^s:=by rw [Int.le_ediv_iff_mul_le hp];omega
      omega
   rw [if_neg hq,H _ _ h0 hlt hn0 (by omega)]
theorem limb_Len_c {x:Int} (h:U x):Ev (fun k=>limb_Len.f k x) (bl x):=by
 refine ⟨7,fun k hk=> ?_⟩
 obtain ⟨k,rfl⟩ : ∃ m,k=m+1+1+1+1+1+1+1:=⟨k-7,by omega⟩
 have s0 : ∀ x n:Int,0≤x→x<2^1→0≤n→n≤64-((1:Nat):Int)→limb_Len.l0 (k+1) x n ((0:Nat):Int)=some (n+bl x):=fun x n a b c d=>len_base k x n a (by omega) c (by omega)
 have s1:=len_step (k+1) 1 0 (by omega) (by omega) rfl s0
 have s2:=len_step (k+1+1) 2 1 (by omega) (by omega) rfl (fun x n a b c d=>s1 x n a b c (by omega))
 have s3:=len_step (k+1+1+1) 4 2 (by omega) (by omega) rfl (fun x n a b c d=>s2 x n a b c (by omega))
 have s4:=len_step (k+1+1+1+1) 8 4 (by omega) (by omega) rfl (fun x n a b c d=>s3 x n a b c (by omega))
 have s5:=len_step (k+1+1+1+1+1) 16 8 (by omega) (by omega) rfl (fun x n a b c d=>s4 x n a b c (by omega))
 have s6:=len_step (k+1+1+1+1+1+1) 32 16 (by omega) (by omega) rfl (fun x n a b c d=>s5 x n a b c (by omega))
 have:=s6 x 0 h.1 h.2 (by omega) (by omega)
 unfold limb_Len.f
 exact this.trans (by congr 1;omega)
theorem ref01_Len_l (m:Nat) : ∀ x n:Int,0≤x→x.toNat≤m→bl x≤64→0≤n→n+bl x≤1000→Ev (fun k=>gr01_Len.l0 k x n) (n+bl x):=by
 induction m with
 | zero =>
   intro x n h0 h1 hb hn hn1
   obtain rfl:x=0:=by omega
   refine Ev.step (fun k=>gr01_Len.l0.eq_2 ..) ?_
   refine Ev.ifn (by omega) ?_
   exact Ev.same (by rw [bl_zero];congr 1;omega)
 | succ m ih =>
   intro x n h0 h1 hb hn hn1
   refine Ev.step (fun k=>gr01_Len.l0.eq_2 ..) ?_
   by_cases hx:x>0
   · refine Ev.ifp hx ?_
     have e:bl x=bl (x/2)+1∨(x=1∧bl x=1):=by
      rcases (show x=1∨2≤x by omega) with h | h
      · exact .inr ⟨h,by rw [h];rfl⟩
      · exact .inl (bl_shr (s:=1) (by omega))
     have e2:bl x=bl (x/2)+1:=by
      rcases e with e | ⟨rfl,e⟩
      · exact e
      · rfl
     have hn2:=bl_nonneg (x/2)
     rw [w64_id (by omega) (by omega)]
     refine (ih (x/2) (n+1) (by omega) (by omega) (by omega) (by omega) (by omega)).eqr (by omega)
   · refine Ev.ifn hx ?_
     obtain rfl:x=0:=by omega
     exact Ev.same (by rw [bl_zero];congr 1;omega)
theorem ref01_Len_c {x:Int} (h:U x):Ev (fun k=>gr01_Len.f k x) (bl x):=by
 have hb:=bl_64 h.2
 have:=ref01_Len_l x.toNat x 0 h.1 (Nat.le_refl _) hb (by omega) (by omega)
 exact this.eqr (by omega)

theorem digit_loop (rest next d d0 d1:Int) (hd:d=d1*4294967296+d0) (hd1:2147483648≤d1) (hd1':d1<4294967296) (hd0:0≤d0) (hd0':d0<4294967296) (hr0:0≤rest) (hr1:rest<d) (hn0:0≤next) (hn1:next<4294967296) (m:Nat) :
 ∀ q r:Int,q.toNat<m→q*d1+r=rest→0≤r→r<4294967296→q≤4294967297→(rest*4294967296+next)/d≤q →
   Ev (fun k=>limb_digit.l0 k rest next d d0 d1 q r) ((rest*4294967296+next)/d,(rest*4294967296+next)%d):=by
 have hdp:0<d:=by omega
 have hN0:0≤(rest*4294967296+next)/d:=Int.ediv_nonneg (by omega) (by omega)
 have hNlt:(rest*4294967296+next)/d<4294967296:=by rw [Int.ediv_lt_iff_lt_mul hdp];omega
 have hmod:=Int.emod_nonneg (rest*4294967296+next) (show d≠0 by omega)
 have hmod2:=Int.emod_lt_of_pos (rest*4294967296+next) hdp
 have hdm:=Int.mul_ediv_add_emod (rest*4294967296+next) d
 have fin : ∀ q:Int,q=(rest*4294967296+next)/d→IntKind.u64.wrap ((IntKind.u64.wrap ((IntKind.u64.wrap (rest*4294967296))+next))-(IntKind.u64.wrap (q*d)))=(rest*4294967296+next)%d:=by
  intro q hq
  subst hq
  generalize (rest*4294967296+next)/d=q at *
  generalize (rest*4294967296+next)%d=r at *
  have e:q*d=d*q:=Int.mul_comm _ _
  rw [e]
  generalize d*q=p at *
  simp only [wu]
  omega
 induction m with
 | zero=>intro q r hm;omega
 | succ m ih =>
   intro q r hm hq h0 h1 h2 h3
   have hqn:0≤q:=by omega
   have hp:=mul_bound (x:=q) (y:=d0) (m:=4294967297) (n:=4294967295) hqn h2 hd0 (by omega)
   have hp1:(q-1)*d0=q*d0-d0:=by rw [Int.sub_mul,Int.one_mul]
   have hs1:(q-1)*d1=q*d1-d1:=by rw [Int.sub_mul,Int.one_mul]
   have hqd:q*d=q*d1*4294967296+q*d0:=by rw [hd,Int.mul_add,← Int.mul_assoc]
   have hqd1:(q-1)*d=q*d-d:=by rw [Int.sub_mul,Int.one_mul]
   have more:(rest*4294967296+next)/d<q→Ev (fun k=>limb_digit.j1 k rest next d d0 d1 q r true) ((rest*4294967296+next)/d,(rest*4294967296+next)%d):=by
    intro hlt
    refine Ev.step (fun k=>limb_digit.j1.eq_2 ..) ?_
    refine Ev.ifp rfl ?_
    have w1:IntKind.u64.wrap (r+d1)=r+d1:=wu_id (by omega) (by omega)
    have w2:IntKind.u64.wrap (q-1)=q-1:=wu_id (by omega) (by omega)
    rw [w1,w2]
    by_cases hb:r+d1>4294967295
    · refine Ev.ifp hb ?_
      have hle:q-1≤(rest*4294967296+next)/d:=by
       rw [Int.le_ediv_iff_mul_le hdp,hqd1,hqd]
       have hp2:=mul_bound (x:=q-1) (y:=d0) (m:=4294967296) (n:=4294967295) (by omega) (by omega) hd0 (by omega)
       generalize (q-1)*d0=p1 at *
       generalize q*d0=p at *
       generalize q*d1=s at *
       omega
      have he:q-1=(rest*4294967296+next)/d:=by omega
      exact Ev.same (by rw [fin _ he,he])
    · refine Ev.ifn hb ?_
      exact ih (q-1) (r+d1) (by omega) (by rw [hs1];omega) (by omega) (by omega) (by omega) (by omega)
   refine Ev.step (fun k=>limb_digit.l0.eq_2 ..) ?_
   by_cases hq1:q>4294967295
   · exact Ev.ifp hq1 (more (by omega))
   · refine Ev.ifn hq1 ?_
     have w1:IntKind.u64.wrap (q*d0)=q*d0:=by
      have hp3:=mul_bound (x:=q) (y:=d0) (m:=4294967295) (n:=4294967295) hqn (by omega) hd0 (by omega)
      exact wu_id (by omega) (by omega)
     have w2:Go.bits .or .u64 (IntKind.u64.wrap (r*4294967296)) next=r*4294967296+next:=by
      rw [wu_id (by omega) (by omega)]
      exact or_join 32 _ _ (by omega) (by omega) (by omega) (by omega) (by omega) (by omega)
     rw [w1,w2]
     by_cases hc:q*d0>r*4294967296+next
     · rw [decide_eq_true hc]
       refine more ?_
       rw [Int.ediv_lt_iff_lt_mul hdp,hqd]
       generalize q*d0=p at *
       generalize q*d1=s at *
       omega
     · rw [decide_eq_false hc]
       have hle:q≤(rest*4294967296+next)/d:=by
        rw [Int.le_ediv_iff_mul_le hdp,hqd]
        generalize q*d0=p at *
        generalize q*d1=s at *
        omega
       have he:q=(rest*4294967296+next)/d:=by omega
       refine Ev.step (fun k=>limb_digit.j1.eq_2 ..) ?_
       refine Ev.ifn (by decide) ?_
       exact Ev.same (by rw [fin _ he,he])
theorem limb_digit_c {rest next d:Int} (hd:9223372036854775808≤d) (hd':d<18446744073709551616) (hr0:0≤rest) (hr1:rest<d) (hn0:0≤next) (hn1:next<4294967296) :
 Ev (fun k=>limb_digit.f k rest next d) ((rest*4294967296+next)/d,(rest*4294967296+next)%d):=by
 have e1:=Int.mul_ediv_add_emod d 4294967296
 have h1:2147483648≤d/4294967296:=by omega
 have h2:d/4294967296<4294967296:=by omega
 refine Ev.ifn (by omega) ?_
 rw [and32 d (by omega) hd']
 have hq0:=Int.ediv_nonneg hr0 (show 0≤d/4294967296 by omega)
 have m0:=Int.emod_nonneg rest (show d/4294967296≠0 by omega)
 have m1:=Int.emod_lt_of_pos rest (show 0<d/4294967296 by omega)
 have md:=Int.mul_ediv_add_emod rest (d/4294967296)
 rw [Int.tdiv_eq_ediv_of_nonneg hr0,Int.tmod_eq_emod_of_nonneg hr0]
 have hqle:rest/(d/4294967296)≤4294967297:=by
  have:rest/(d/4294967296)<4294967298:=by rw [Int.ediv_lt_iff_lt_mul (by omega)];omega
  omega
 rw [wu_id hq0 (by omega)]
 refine digit_loop rest next d (d%4294967296) (d/4294967296) (by omega) h1 h2 (by omega) (by omega) hr0 hr1 hn0 hn1 ((rest/(d/4294967296)).toNat+1) _ _ (by omega) (by rw [Int.mul_comm];omega) m0 (by omega) hqle ?_
 have hlt:(rest*4294967296+next)/d<rest/(d/4294967296)+1:=by
  rw [Int.ediv_lt_iff_lt_mul (by omega)]
  have e2:(rest/(d/4294967296)+1)*d=(d/4294967296*(rest/(d/4294967296))+d/4294967296)*4294967296+(rest/(d/4294967296)+1)*(d%4294967296):=by
   generalize rest/(d/4294967296)=q at *
   generalize d/4294967296=d1 at *
   generalize d%4294967296=d0 at *
   subst e1
   grind
  have e3:0≤(rest/(d/4294967296)+1)*(d%4294967296):=Int.mul_nonneg (by omega) (by omega)
  rw [e2]
  generalize (rest/(d/4294967296)+1)*(d%4294967296)=z at *
  generalize d/4294967296*(rest/(d/4294967296))=y at *
  omega
 omega

theorem bl_top {d:Int} (h0:0<d) (h1:d<18446744073709551616):9223372036854775808≤d*2^(64-bl d).toNat∧d*2^(64-bl d).toNat<18446744073709551616:=by
 have a1:=bl_lt d
 have a2:=bl_le h0
 have a3:=bl_64 h1
 have a4:=bl_pos h0
 obtain ⟨n,hn⟩ : ∃ n:Nat,bl d=n+1:=⟨(bl d-1).toNat,by omega⟩
 rw [hn] at a1 a2 a3 ⊢
 have e1:((n:Int)+1).toNat=n+1:=by omega
 have e2:((n:Int)+1-1).toNat=n:=by omega
 have e3:(64-((n:Int)+1)).toNat=63-n:=by omega
 rw [e1] at a1
 rw [e2] at a2
 rw [e3]
 have hp:=pow_pos (63-n)
 have b1:=Int.mul_le_mul_of_nonneg_right a2 (Int.le_of_lt hp)
 have b2:=Int.mul_lt_mul_of_pos_right a1 hp
 rw [← Int.pow_add,show n+(63-n)=63 by omega] at b1
 rw [← Int.pow_add,show n+1+(63-n)=64 by omega] at b2
 omega
theorem limb_Div_c {hi lo d:Int} (hhi:0≤hi) (hlt:hi<d) (hd:d<18446744073709551616) (hlo:U lo) :
 Ev (fun k=>limb_Div.f k hi lo d) ((hi*18446744073709551616+lo)/d,(hi*18446744073709551616+lo)%d,true):=by
 obtain ⟨hlo0,hlo1⟩:=hlo
 refine Ev.ifn (by omega) ?_
 refine Ev.bind (limb_Len_c ⟨by omega,hd⟩) ?_
 have b1:=bl_pos (x:=d) (by omega)
 have b2:=bl_64 hd
 have b3:=bl_top (d:=d) (by omega) hd
 have e64:wrap64 (64-bl d)=64-bl d:=w64_id (by omega) (by omega)
 have e63:wrap64 (63-(64-bl d))=bl d-1:=by rw [w64_id (by omega) (by omega)];omega
 rw [e64,e63]
 refine Ev.ifp (by omega) (Ev.ifp (by omega) ?_)
 obtain ⟨s,hs⟩ : ∃ s:Nat,64-bl d=s:=⟨(64-bl d).toNat,by omega⟩
 have hs63:s≤63:=by omega
 have hs1:bl d-1=((63-s:Nat):Int):=by omega
 rw [hs] at b3 ⊢
 rw [hs1]
 rw [Int.toNat_natCast] at b3
 have hp:=pow_pos s
 have hp2:=pow_pos (64-s)
 have hpp:(2:Int)^s*2^(64-s)=18446744073709551616:=by rw [← Int.pow_add,show s+(64-s)=64 by omega];rfl
 rw [shl_u d _ (by omega),shl_u hi _ (by omega),shl_u lo _ (by omega),shr_u _ _ (by omega),Int.toNat_natCast,Int.toNat_natCast]
 have hdm:d*2^s%18446744073709551616=d*2^s:=Int.emod_eq_of_lt (by omega) b3.2
 have hh0:0≤hi*2^s:=Int.mul_nonneg hhi (by omega)
 have hh1:hi*2^s+2^s≤d*2^s:=by
  have:=Int.mul_le_mul_of_nonneg_right (show hi+1≤d by omega) (Int.le_of_lt hp)
  rw [Int.add_mul,Int.one_mul] at this
  exact this
 have hhm:hi*2^s%18446744073709551616=hi*2^s:=Int.emod_eq_of_lt hh0 (by omega)
 have hl2:lo/2/2^(63-s)=lo/2^(64-s):=by
  rw [Int.ediv_ediv_of_nonneg (by omega),show (64-s)=(63-s)+1 by omega,Int.pow_succ,Int.mul_comm]
 have hl3:0≤lo/2^(64-s):=Int.ediv_nonneg hlo0 (by omega)
 have hl4:lo/2^(64-s)<2^s:=by rw [Int.ediv_lt_iff_lt_mul hp2,hpp];exact hlo1
 have hl5:lo*2^s=lo/2^(64-s)*18446744073709551616+lo%2^(64-s)*2^s:=by
  have h:=Int.mul_ediv_add_emod lo (2^(64-s))
  generalize lo/2^(64-s)=q at *
  generalize lo%2^(64-s)=r at *
  rw [← h,Int.add_mul,← hpp]
  grind
 have hl6:0≤lo%2^(64-s):=Int.emod_nonneg _ (by omega)
 have hl7:lo%2^(64-s)<2^(64-s):=Int.emod_lt_of_pos _ hp2
 have hl8:lo%2^(64-s)*2^s<18446744073709551616:=by
  have:=Int.mul_lt_mul_of_pos_right hl7 hp
  rw [Int.mul_comm (2^(64-s)),hpp] at this
  exact this
 have hl9:0≤lo%2^(64-s)*2^s:=Int.mul_nonneg hl6 (by omega)
 have hlm:lo*2^s%18446744073709551616=lo%2^(64-s)*2^s:=by omega
 have hor:Go.bits .or .u64 (hi*2^s) (lo/2^(64-s))=hi*2^s+lo/2^(64-s) :=
  or_join s _ _ hh0 (Int.mul_emod_left _ _) (by omega) hl3 hl4 (by omega)
 rw [hdm,hhm,hl2,hor,hlm]
 have hN:(hi*18446744073709551616+lo)*2^s=(hi*2^s+lo/2^(64-s))*18446744073709551616+lo%2^(64-s)*2^s:=by
  have:(hi*18446744073709551616+lo)*2^s=hi*2^s*18446744073709551616+lo*2^s:=by grind
  rw [this,hl5]
  grind
 have hdiv:(hi*18446744073709551616+lo)/d=(hi*18446744073709551616+lo)*2^s/(d*2^s):=(Int.mul_ediv_mul_of_pos_left _ _ hp).symm
 have hmod:(hi*18446744073709551616+lo)*2^s%(d*2^s)=(hi*18446744073709551616+lo)%d*2^s:=by
  rw [Int.mul_comm _ (2^s),Int.mul_comm d (2^s),Int.mul_emod_mul_of_pos _ _ hp,Int.mul_comm]
 have hm1:=Int.emod_nonneg (hi*18446744073709551616+lo) (show d≠0 by omega)
 have hmm:(hi*18446744073709551616+lo)%d=(hi*18446744073709551616+lo)*2^s%(d*2^s)/2^s:=by rw [hmod,Int.mul_ediv_cancel _ (by omega)]
 rw [hdiv,hmm,hN]
 have hH:0≤hi*2^s+lo/2^(64-s):=by omega
 have hHD:hi*2^s+lo/2^(64-s)<d*2^s:=by omega
 generalize hi*2^s+lo/2^(64-s)=H at *
 generalize lo%2^(64-s)*2^s=L at *
 generalize d*2^s=D at *
 refine Ev.bind (limb_digit_c b3.1 b3.2 hH hHD (by omega) (by omega)) ?_
 have r0:=Int.emod_nonneg (H*4294967296+L/4294967296) (show D≠0 by omega)
 have r1:=Int.emod_lt_of_pos (H*4294967296+L/4294967296) (show 0<D by omega)
 rw [and32 L (by omega) hl8]
 refine Ev.bind (limb_digit_c b3.1 b3.2 r0 r1 (by omega) (by omega)) ?_
 have q10:0≤(H*4294967296+L/4294967296)/D:=Int.ediv_nonneg (by omega) (by omega)
 have q11:(H*4294967296+L/4294967296)/D<4294967296:=by rw [Int.ediv_lt_iff_lt_mul (by omega)];omega
 have md:=Int.mul_ediv_add_emod (H*4294967296+L/4294967296) D
 generalize (H*4294967296+L/4294967296)/D=q1 at *
 generalize (H*4294967296+L/4294967296)%D=r at *
 have hR:H*18446744073709551616+L=D*(q1*4294967296)+(r*4294967296+L%4294967296):=by
  have:D*(q1*4294967296)=D*q1*4294967296:=by rw [Int.mul_assoc]
  rw [this]
  generalize D*q1=z at *
  omega
 have q00:0≤(r*4294967296+L%4294967296)/D:=Int.ediv_nonneg (by omega) (by omega)
 have q01:(r*4294967296+L%4294967296)/D<4294967296:=by rw [Int.ediv_lt_iff_lt_mul (by omega)];omega
 have s0:=Int.emod_nonneg (r*4294967296+L%4294967296) (show D≠0 by omega)
 have s1:=Int.emod_lt_of_pos (r*4294967296+L%4294967296) (show 0<D by omega)
 have eD:(D*(q1*4294967296)+(r*4294967296+L%4294967296))/D=(r*4294967296+L%4294967296)/D+q1*4294967296:=by
  rw [Int.add_comm,Int.add_mul_ediv_left _ _ (by omega)]
 have eM:(D*(q1*4294967296)+(r*4294967296+L%4294967296))%D=(r*4294967296+L%4294967296)%D:=by
  rw [Int.add_comm,Int.add_mul_emod_self_left]
 rw [hR,eD,eM]
 have hw:Go.bits .or .u64 (IntKind.u64.wrap (q1*4294967296)) ((r*4294967296+L%4294967296)/D)=(r*4294967296+L%4294967296)/D+q1*4294967296:=by
  rw [wu_id (by omega) (by omega),or_join 32 _ _ (by omega) (by omega) (by omega) (by omega) (by omega) (by omega)]
  omega
 have hsh:shr .u64 ((r*4294967296+L%4294967296)%D) (s:Int)=(r*4294967296+L%4294967296)%D/2^s:=by rw [shr_u _ _ (by omega),Int.toNat_natCast]
 exact Ev.same (by rw [hw,hsh])

theorem div_pow_range {b:Int} (hb:U b) (n:Nat):0≤b/2^n∧b/2^n≤b:=by
 have hp:=pow_pos n
 exact ⟨Int.ediv_nonneg hb.1 (by omega),Int.ediv_le_self _ hb.1⟩
theorem Cn_take {l:List Int} {n:Nat} (h:n<l.length) (hr:rd l (n:Int)≠0):Cn (l.take (n+1)):=by
 rw [take_rd h]
 exact .inr (by rw [List.getLast?_append];simpa using hr)
theorem dg_take {l:List Int} (h:Ws l) {n:Nat} (hn:n<l.length) (hr:rd l (n:Int)≠0) (he:nv (l.take (n+1))=nv l):dg (nv l)=l.take (n+1):=by
 rw [← he,dg_nv (Ws_take h _) (Cn_take hn hr)]
theorem nat_size_l {l:List Int} (h:Wl l) (n:Nat):n≤l.length→nv (l.take n)=nv l→Ev (fun k=>nat_size.l0 k l n) ((dg (nv l)).length:Int):=by
 obtain ⟨hw,hl⟩:=h
 induction n with
 | zero =>
   intro hn he
   refine Ev.step (fun k=>nat_size.l0.eq_2 ..) ?_
   refine Ev.ifn (by omega) (Ev.same ?_)
   rw [← he]
   rfl
 | succ n ih =>
   intro hn he
   have e:wrap64 (((n+1:Nat):Int)-1)=(n:Int):=by rw [w64_id (by omega) (by omega)];omega
   refine Ev.step (fun k=>nat_size.l0.eq_2 ..) ?_
   refine Ev.ifp (by omega) ?_
   rw [e]
   refine Ev.ifp (by omega) (Ev.ifp (by omega) ?_)
   by_cases hr:rd l (n:Int)=0
   · refine Ev.ifp hr (ih (by omega) ?_)
     rw [← he,nv_take_succ (by omega),hr,Int.mul_zero,Int.add_zero]
   · refine Ev.ifn hr (Ev.same ?_)
     rw [dg_take hw (by omega) hr he,List.length_take,Nat.min_eq_left (by omega)]
theorem nat_size_c {l:List Int} (h:Wl l):Ev (fun k=>nat_size.f k l) ((dg (nv l)).length:Int) :=
 nat_size_l h l.length (Nat.le_refl _) (by rw [List.take_length])
theorem dg_prefix {l:List Int} (h:Ws l) : ∃ r,l=dg (nv l)++r∧nv r=0:=by
 have key : ∀ n,n≤l.length→nv (l.take n)=nv l→l.take (dg (nv l)).length=dg (nv l):=by
  intro n
  induction n with
  | zero=>intro _ he;rw [← he];rfl
  | succ n ih =>
    intro hn he
    by_cases hr:rd l (n:Int)=0
    · refine ih (by omega) ?_
      rw [← he,nv_take_succ (by omega),hr,Int.mul_zero,Int.add_zero]
    · rw [dg_take h (by omega) hr he,List.length_take,Nat.min_eq_left (by omega)]
 have h1:=key l.length (Nat.le_refl _) (by rw [List.take_length])
 refine ⟨l.drop (dg (nv l)).length, ?_, ?_⟩
 · conv=>rhs;lhs;rw [← h1]
   rw [List.take_append_drop]
 · have h2:=nv_split l (dg (nv l)).length
   rw [h1,nv_dg (nv_nonneg h)] at h2
   have h3:=Wp_pos (min (dg (nv l)).length l.length)
   have h4:Wp (min (dg (nv l)).length l.length)*nv (l.drop (dg (nv l)).length)=0:=by omega
   rcases Int.mul_eq_zero.1 h4 with h5 | h5
   · omega
   · exact h5
theorem dg_len_list {l:List Int} (h:Ws l):(dg (nv l)).length≤l.length:=dg_len_le (nv_lt h)
theorem take_dg {l:List Int} (h:Ws l):l.take (dg (nv l)).length=dg (nv l):=by
 obtain ⟨r,hr,_⟩:=dg_prefix h
 conv=>lhs;rhs;rw [hr]
 simp
theorem rd_dg {l:List Int} (h:Ws l) (i:Int):rd l i=rd (dg (nv l)) i:=by
 obtain ⟨r,hr,hz⟩:=dg_prefix h
 have hrz : ∀ (r:List Int),Ws r→nv r=0→ ∀ j,r.getD j 0=0:=by
  intro r
  induction r with
  | nil=>intro _ _ j;simp
  | cons x r ih =>
    intro hw h0 j
    have h1:=Ws_cons.1 hw
    have h2:=nv_nonneg h1.2
    unfold U at h1
    rw [nv_cons] at h0
    cases j with
    | zero=>simp;omega
    | succ j=>simpa using ih h1.2 (by omega) j
 have hwr:Ws r:=(Ws_app.1 (hr▸h)).2
 unfold rd
 conv=>lhs;rw [hr]
 rw [List.getD_eq_getElem?_getD,List.getD_eq_getElem?_getD]
 rcases Nat.lt_or_ge i.toNat (dg (nv l)).length with hi | hi
 · rw [List.getElem?_append_left hi]
 · rw [List.getElem?_append_right hi,List.getElem?_eq_none hi,← List.getD_eq_getElem?_getD,hrz r hwr hz]
   rfl
theorem nat_Trim_c {l:List Int} (h:Wl l):Ev (fun k=>nat_Trim.f k l) (dg (nv l)):=by
 obtain ⟨hw,hl⟩:=h
 have hd:=dg_len_list hw
 refine Ev.bindc rfl ?_
 refine Ev.bind (nat_size_c ⟨hw,hl⟩) ?_
 rw [Int.toNat_natCast,take_dg hw]
 refine Ev.ifp (by omega) (Ev.ifp (by omega) (Ev.ifp (by rw [List.length_nil];omega) ?_))
 exact Ev.same (by rw [List.nil_append])
theorem nat_Of_c {x:Int} (h:U x):Ev (fun k=>nat_Of.f k x) (dg x):=by
 have:=nat_Trim_c (l:= [x]) ⟨Ws_one h,by simp⟩
 rw [nv_one] at this
 exact Ev.bind this (Ev.same rfl)
theorem nat_Right_c {l:List Int} (h:Wl l):nat_Right.f l=some (decide (dg (nv l)=l)):=by
 obtain ⟨hw,hl⟩:=h
 unfold nat_Right.f
 by_cases h0:(l.length:Int)=0
 · rw [if_pos h0]
   have:l= []:=List.eq_nil_of_length_eq_zero (by omega)
   subst this
   rfl
 · have e:wrap64 ((l.length:Int)-1)=((l.length-1:Nat):Int):=by rw [w64_id (by omega) (by omega)];omega
   have hln:l.length-1+1=l.length:=by omega
   rw [if_neg h0,e,if_pos (by omega),if_pos (by omega)]
   congr 1
   by_cases hr:rd l ((l.length-1:Nat):Int)=0
   · rw [hr]
     have hne:dg (nv l)≠l:=by
      intro hd
      have hc:=dg_Cn (nv_nonneg hw)
      rw [hd] at hc
      have h1:=take_rd (l:=l) (i:=l.length-1) (by omega)
      rw [hln,List.take_length,hr] at h1
      rcases hc with hc | hc
      · rw [hc] at h0;exact h0 rfl
      · rw [h1] at hc;simp at hc
     simp [hne]
   · have:=dg_take hw (n:=l.length-1) (by omega) hr (by rw [hln,List.take_length])
     rw [hln,List.take_length] at this
     simp [this,hr]
theorem dg_word {n:Int} (h:U n):dg n=if n=0 then [] else [n]:=by
 unfold U at h
 split
 · rename_i h0;rw [h0];rfl
 · rw [dg_pos (by omega),show n/18446744073709551616=0 by omega,dg_zero,show n%18446744073709551616=n by omega]
theorem dg_len_zero {n:Int} (h:0≤n):(dg n).length=0↔n=0:=by
 constructor
 · intro h1
   have:=nv_dg h
   rw [List.eq_nil_of_length_eq_zero h1] at this
   exact this.symm
 · intro h1;rw [h1];rfl
theorem nat_Word_c {l:List Int} (h:Wl l):Ev (fun k=>nat_Word.f k l) (if nv l<18446744073709551616 then (nv l,true) else (0,false)):=by
 obtain ⟨hw,hl⟩:=h
 have hn:=nv_nonneg hw
 refine Ev.bind (nat_size_c ⟨hw,hl⟩) ?_
 by_cases h0:nv l=0
 · have h1:(dg (nv l)).length=0:=(dg_len_zero hn).2 h0
   refine Ev.ifp (by omega) (Ev.same ?_)
   rw [h0,if_pos (by omega)]
 · have h1:(dg (nv l)).length≠0:=fun h=>h0 ((dg_len_zero hn).1 h)
   refine Ev.ifn (by omega) ?_
   by_cases h2:nv l<18446744073709551616
   · have hd:=dg_word (n:=nv l) ⟨hn,h2⟩
     rw [if_neg h0] at hd
     rw [if_pos h2]
     refine Ev.ifp (by rw [hd];rfl) (Ev.ifp ?_ (Ev.same ?_))
     · have:=dg_len_list hw;rw [hd] at this;simp at this;omega
     · rw [rd_dg hw,hd];rfl
   · rw [if_neg h2]
     refine Ev.ifn ?_ (Ev.same rfl)
     have:=le_dg_len (n:=nv l) (m:=1) (by show (18446744073709551616:Int)^1≤_;omega)
     omega

def cmpI (x y:Int):Int:=if x<y then -1 else if y<x then 1 else 0
theorem cmpI_lt {x y:Int} (h:x<y):cmpI x y= -1:=by unfold cmpI;rw [if_pos h]
theorem cmpI_gt {x y:Int} (h:y<x):cmpI x y=1:=by unfold cmpI;rw [if_neg (by omega),if_pos h]
theorem cmpI_neg {x y:Int} :cmpI x y<0↔x<y:=by unfold cmpI;split<;>(try split)<;>omega
theorem take_lt {a b:List Int} (ha:Ws a) (hb:Ws b) {i:Nat} (h1:i<a.length) (h2:i<b.length) (hlt:rd a (i:Int)<rd b (i:Int)):nv (a.take (i+1))<nv (b.take (i+1)):=by
 rw [nv_take_succ h1,nv_take_succ h2]
 have c1:=nv_lt (Ws_take ha i)
 have c2:=nv_nonneg (Ws_take hb i)
 rw [List.length_take,Nat.min_eq_left (by omega)] at c1
 have c3:=Wp_pos i
 have c4:=Int.mul_le_mul_of_nonneg_left (show rd a (i:Int)+1≤rd b (i:Int) by omega) (Int.le_of_lt c3)
 rw [Int.mul_add,Int.mul_one] at c4
 omega
theorem nat_Cmp_l {a b:List Int} (ha:Wl a) (hb:Wl b) (n:Nat):n≤a.length→n≤b.length→Ev (fun k=>nat_Cmp.l0 k a b ((n:Int)-1)) (cmpI (nv (a.take n)) (nv (b.take n))):=by
 obtain ⟨haw,hal⟩:=ha
 obtain ⟨hbw,hbl⟩:=hb
 induction n with
 | zero =>
   intro _ _
   refine Ev.step (fun k=>nat_Cmp.l0.eq_2 ..) ?_
   exact Ev.ifn (by omega) (Ev.same rfl)
 | succ n ih =>
   intro h1 h2
   have e:((n+1:Nat):Int)-1=(n:Int):=by omega
   rw [e]
   refine Ev.step (fun k=>nat_Cmp.l0.eq_2 ..) ?_
   refine Ev.ifp (by omega) (Ev.ifp (by omega) (Ev.ifp (by omega) (Ev.ifp (by omega) ?_)))
   by_cases c1:rd a (n:Int)<rd b (n:Int)
   · exact Ev.ifp c1 (Ev.same (by rw [cmpI_lt (take_lt haw hbw (by omega) (by omega) c1)]))
   · refine Ev.ifn c1 ?_
     by_cases c2:rd a (n:Int)>rd b (n:Int)
     · exact Ev.ifp c2 (Ev.same (by rw [cmpI_gt (take_lt hbw haw (by omega) (by omega) c2)]))
     · refine Ev.ifn c2 ?_
       rw [w64_id (by omega) (by omega)]
       have e2:rd a (n:Int)=rd b (n:Int):=by omega
       refine (ih (by omega) (by omega)).eqr ?_
       rw [nv_take_succ (by omega),nv_take_succ (by omega),e2]
       unfold cmpI
       split<;>split<;>first | omega | (split<;>first | omega | (split<;>omega))
theorem nv_take_dg {l:List Int} (h:Ws l):nv (l.take (dg (nv l)).length)=nv l:=by rw [take_dg h,nv_dg (nv_nonneg h)]
theorem len_lt_nv {x y:Int} (hx:0≤x) (hy:0≤y) (h:(dg x).length<(dg y).length):x<y:=by
 have h1:=lt_Wp_dg hx
 have h2:=dg_len_lt (n:=y) (by
  rcases (show y=0∨0<y by omega) with h0 | h0
  · rw [h0,dg_zero] at h;simp at h
  · exact h0)
 have:=Wp_le (show (dg x).length≤(dg y).length-1 by omega)
 omega
theorem nat_Cmp_c {a b:List Int} (ha:Wl a) (hb:Wl b):Ev (fun k=>nat_Cmp.f k a b) (cmpI (nv a) (nv b)):=by
 have hla:=dg_len_list ha.1
 have hlb:=dg_len_list hb.1
 refine Ev.bind (nat_size_c ha) (Ev.bind (nat_size_c hb) ?_)
 by_cases h:(dg (nv a)).length=(dg (nv b)).length
 · refine Ev.ifp (by omega) ?_
   have hl:=ha.2
   rw [w64_id (by omega) (by omega)]
   refine (nat_Cmp_l ha hb (dg (nv a)).length hla (by omega)).eqr ?_
   rw [nv_take_dg ha.1]
   conv=>lhs;rhs;rw [h]
   rw [nv_take_dg hb.1]
 · refine Ev.ifn (by omega) ?_
   rcases Nat.lt_or_ge (dg (nv a)).length (dg (nv b)).length with h1 | h1
   · exact Ev.ifp (by omega) (Ev.same (by rw [cmpI_lt (len_lt_nv (nv_nonneg ha.1) (nv_nonneg hb.1) h1)]))
   · exact Ev.ifn (by omega) (Ev.same (by rw [cmpI_gt (len_lt_nv (nv_nonneg hb.1) (nv_nonneg ha.1) (by omega))]))

theorem take_zero_of_ge {b:List Int} {i:Nat} (h:b.length≤i):b.take (i+1)=b.take i:=by rw [List.take_of_length_le (by omega),List.take_of_length_le (by omega)]
theorem Wl_snoc {a:List Int} {x:Int} (ha:Ws a) (hx:U x):Ws (a++ [x]):=Ws_app.2 ⟨ha,Ws_one hx⟩
theorem nat_Add_end {out:List Int} {over:Int} (h:Wl (out++ [over])) (hl:out.length≤999999999):Ev (fun k=>if out.length<17592186044416 then ((nat_Trim.f k (out++ [over])).bind fun t183=>(some t183)) else (none)) (dg (nv out+Wp out.length*over)):=by
 refine Ev.ifp (by omega) ?_
 rw [← nv_snoc]
 exact Ev.bind (nat_Trim_c h) (Ev.same rfl)
theorem nat_Add_l0 {a b:List Int} (ha:Wl a) (hb:Wl b) (hlb:b.length≤a.length) (hla:a.length≤999999999) (d:Nat) : ∀ (i:Nat) (out:List Int) (over:Int),i+d=a.length→out.length=i→Ws out→0≤over→over≤1→nv out+Wp i*over=nv (a.take i)+nv (b.take i) →
 Ev (fun k=>nat_Add.l0 k b out over a (a.length:Int) i) (dg (nv a+nv b)):=by
 induction d with
 | zero =>
   intro i out over hi hlo hwo h0 h1 he
   refine Ev.step (fun k=>nat_Add.l0.eq_2 ..) ?_
   refine Ev.ifn (by omega) ?_
   rw [List.take_of_length_le (by omega),List.take_of_length_le (by omega)] at he
   rw [← he,← hlo]
   exact nat_Add_end ⟨Wl_snoc hwo (by unfold U;omega),by simp;omega⟩ (by omega)
 | succ d ih =>
   intro i out over hi hlo hwo h0 h1 he
   have hx:=U_rd ha.1 (i:Int)
   refine Ev.step (fun k=>nat_Add.l0.eq_2 ..) ?_
   refine Ev.ifp (by omega) (Ev.ifp (by omega) (Ev.ifp (by omega) ?_))
   have fin : ∀ y:Int,U y→nv (b.take (i+1))=nv (b.take i)+Wp i*y→Ev (fun k=>(limb_Add.f (rd a (i:Int)) y over).bind fun bt170=>(if out.length<17592186044416 then (nat_Add.l0 k b (out++ [bt170.1]) bt170.2 a (a.length:Int) (wrap64 ((i:Int)+1))) else (none))) (dg (nv a+nv b)):=by
    intro y hy hby
    refine Ev.bindc (limb_Add_c hx hy (by unfold U;omega)) ?_
    dsimp only
    refine Ev.ifp (by omega) ?_
    have e:wrap64 ((i:Int)+1)=((i+1:Nat):Int):=by rw [w64_id (by omega) (by omega)];omega
    rw [e]
    unfold U at hx hy
    refine ih (i+1) _ _ (by omega) (by simp;omega) (Wl_snoc hwo (by unfold U;omega)) (by omega) (by omega) ?_
    rw [nv_snoc,hlo,nv_take_succ (l:=a) (by omega),hby,Wp_succ]
    have hs:(rd a (i:Int)+y+over)=18446744073709551616*((rd a (i:Int)+y+over)/18446744073709551616)+(rd a (i:Int)+y+over)%18446744073709551616:=by omega
    generalize (rd a (i:Int)+y+over)/18446744073709551616=q at *
    generalize (rd a (i:Int)+y+over)%18446744073709551616=r at *
    generalize rd a (i:Int)=x at *
    have:over=18446744073709551616*q+r-x-y:=by omega
    rw [this] at he
    grind
   by_cases hib:(i:Int)<(b.length:Int)
   · exact Ev.ifp hib (fin _ (U_rd hb.1 _) (nv_take_succ (by omega)))
   · refine Ev.ifn hib (fin 0 (by unfold U;omega) ?_)
     rw [take_zero_of_ge (by omega),Int.mul_zero,Int.add_zero]
theorem nat_Add_l01 (a b out:List Int) : ∀ (k:Nat) (over len i:Int),nat_Add.l1 k b out over a len i=nat_Add.l0 k b out over a len i:=by
 intro k
 induction k generalizing out with
 | zero=>intros;rfl
 | succ k ih=>intros;simp only [nat_Add.l0,nat_Add.l1,ih]
theorem nat_Add_c {a b:List Int} (ha:Wl a) (hb:Wl b) (hla:a.length≤999999999) (hlb:b.length≤999999999):Ev (fun k=>nat_Add.f k a b) (dg (nv a+nv b)):=by
 by_cases h:(a.length:Int)<(b.length:Int)
 · refine Ev.ifp h ?_
   rw [w64_id (by omega) (by omega)]
   refine Ev.ifp (by omega) (Ev.ifp (by omega) ?_)
   rw [Int.add_comm]
   exact nat_Add_l0 hb ha (by omega) hlb b.length 0 [] 0 (by omega) rfl Ws_nil (by omega) (by omega) rfl
 · refine Ev.ifn h ?_
   rw [w64_id (by omega) (by omega)]
   refine Ev.ifp (by omega) (Ev.ifp (by omega) ?_)
   exact Ev.congr (fun k=>nat_Add_l01 ..) (nat_Add_l0 ha hb (by omega) hla a.length 0 [] 0 (by omega) rfl Ws_nil (by omega) (by omega) rfl)
theorem nat_Sub_l0 {a b:List Int} (ha:Wl a) (hb:Wl b) (hge:nv b≤nv a) (d:Nat) : ∀ (i:Nat) (out:List Int) (under:Int),i+d=a.length→out.length=i→Ws out→0≤under→under≤1→nv out-Wp i*under=nv (a.take i)-nv (b.take i) →
 Ev (fun k=>nat_Sub.l0 k b out under a (a.length:Int) i) (dg (nv a-nv b),true):=by
 have hal:=ha.2
 induction d with
 | zero =>
   intro i out under hi hlo hwo h0 h1 he
   refine Ev.step (fun k=>nat_Sub.l0.eq_2 ..) ?_
   refine Ev.ifn (by omega) ?_
   have hi2:i=a.length:=by omega
   subst hi2
   rw [List.take_length] at he
   have hb2:=nv_split b a.length
   have hn1:=nv_nonneg hwo
   have hn2:=nv_lt hwo
   rw [hlo] at hn2
   have hn3:=nv_nonneg (Ws_take hb.1 a.length)
   have hn4:=nv_nonneg (Ws_drop hb.1 a.length)
   have hn5:=nv_lt ha.1
   have hp:=Wp_pos a.length
   have hz:Wp (min a.length b.length)*nv (b.drop a.length)=0:=by
    rcases Nat.lt_or_ge a.length b.length with hlt | hgt
    · rw [Nat.min_eq_left (by omega)] at hb2 ⊢
      rcases (show nv (b.drop a.length)=0∨1≤nv (b.drop a.length) by omega) with h | h
      · rw [h,Int.mul_zero]
      · have:=Int.mul_le_mul_of_nonneg_left h (Int.le_of_lt hp)
        omega
    · rw [List.drop_eq_nil_of_le hgt];simp [nv]
   have hu:under=0:=by
    rcases (show under=0∨under=1 by omega) with h | h
    · exact h
    · subst h;omega
   subst hu
   have e:nv a-nv b=nv out:=by omega
   rw [e]
   exact Ev.bind (nat_Trim_c ⟨hwo,by omega⟩) (Ev.same rfl)
 | succ d ih =>
   intro i out under hi hlo hwo h0 h1 he
   have hx:=U_rd ha.1 (i:Int)
   refine Ev.step (fun k=>nat_Sub.l0.eq_2 ..) ?_
   refine Ev.ifp (by omega) (Ev.ifp (by omega) (Ev.ifp (by omega) ?_))
   have fin : ∀ y:Int,U y→nv (b.take (i+1))=nv (b.take i)+Wp i*y→Ev (fun k=>(limb_Sub.f (rd a (i:Int)) y under).bind fun bt170=>(if out.length<17592186044416 then (nat_Sub.l0 k b (out++ [bt170.1]) bt170.2 a (a.length:Int) (wrap64 ((i:Int)+1))) else (none))) (dg (nv a-nv b),true):=by
    intro y hy hby
    refine Ev.bindc (limb_Sub_c hx hy (by unfold U;omega)) ?_
    dsimp only
    refine Ev.ifp (by omega) ?_
    have e:wrap64 ((i:Int)+1)=((i+1:Nat):Int):=by rw [w64_id (by omega) (by omega)];omega
    rw [e]
    have hna:=nv_take_succ (l:=a) (i:=i) (by omega)
    unfold U at hx hy
    have hs:(rd a (i:Int)-y-under)=18446744073709551616*((rd a (i:Int)-y-under)/18446744073709551616)+(rd a (i:Int)-y-under)%18446744073709551616:=by omega
    have hr0:0≤(rd a (i:Int)-y-under)%18446744073709551616:=by omega
    have hr1:(rd a (i:Int)-y-under)%18446744073709551616<18446744073709551616:=by omega
    have hq0:0≤ -((rd a (i:Int)-y-under)/18446744073709551616):=by omega
    have hq1 : -((rd a (i:Int)-y-under)/18446744073709551616)≤1:=by omega
    generalize (rd a (i:Int)-y-under)/18446744073709551616=q at *
    generalize (rd a (i:Int)-y-under)%18446744073709551616=r at *
    generalize rd a (i:Int)=x at *
    have hl1:(out++ [r]).length=i+1:=by rw [List.length_append,hlo];rfl
    refine ih (i+1) (out++ [r]) (-q) (by omega) hl1 (Wl_snoc hwo ⟨hr0,hr1⟩) hq0 hq1 ?_
    rw [nv_snoc,hlo,hna,hby,Wp_succ]
    have:under=x-y-18446744073709551616*q-r:=by omega
    rw [this] at he
    grind
   by_cases hib:(i:Int)<(b.length:Int)
   · exact Ev.ifp hib (fin _ (U_rd hb.1 _) (nv_take_succ (by omega)))
   · refine Ev.ifn hib (fin 0 (by unfold U;omega) ?_)
     rw [take_zero_of_ge (by omega),Int.mul_zero,Int.add_zero]
theorem nat_Sub_c {a b:List Int} (ha:Wl a) (hb:Wl b) (hge:nv b≤nv a):Ev (fun k=>nat_Sub.f k a b) (dg (nv a-nv b),true):=by
 have hal:=ha.2
 refine Ev.bind (nat_Cmp_c ha hb) ?_
 refine Ev.ifn (by rw [cmpI_neg];omega) (Ev.ifp (by omega) (Ev.ifp (by omega) ?_))
 exact nat_Sub_l0 ha hb hge a.length 0 [] 0 (by omega) rfl Ws_nil (by omega) (by omega) rfl
theorem nat_Sub_no {a b:List Int} (ha:Wl a) (hb:Wl b) (hlt:nv a<nv b):Ev (fun k=>nat_Sub.f k a b) ([],false):=by
 refine Ev.bind (nat_Cmp_c ha hb) ?_
 exact Ev.ifp (by rw [cmpI_neg];omega) (Ev.same rfl)
structure Hd (p:Prop):Prop where mk::(out:p)
theorem sub_succ_of {i m:Nat} (h:m≤i):i+1-m=i-m+1:=by omega
def shn (n:Int):Nat:=(mn (mx n 0) 65536).toNat
theorem shn_le (n:Int):shn n≤65536:=by unfold shn mn;split<;>omega
theorem shn_of {n:Int} (h0:0≤n) (h1:n≤65536):shn n=n.toNat:=by unfold shn mn mx;split<;>split<;>omega
theorem shn_eq (n:Int):mn (mx n 0) 65536=(shn n:Int):=by unfold shn mn mx;split<;>split<;>omega
theorem mul_mod_left (x y:Int):x%18446744073709551616*y%18446744073709551616=x*y%18446744073709551616:=by
 rw [Int.mul_emod,Int.emod_emod_of_dvd _ (Int.dvd_refl _),← Int.mul_emod]
theorem w_split {b:Nat} (h:b≤64):(2:Int)^(64-b)*2^b=18446744073709551616:=by
 rw [← Int.pow_add,show 64-b+b=64 by omega];rfl
theorem mod_up (z:Int) {b:Nat} (h:b≤64):z*2^(64-b)%18446744073709551616=2^(64-b)*(z%2^b):=by
 rw [← w_split h,Int.mul_comm z,Int.mul_emod_mul_of_pos _ _ (pow_pos _)]
theorem mod_up' (z:Int) {b:Nat} (h:b≤64):z*2^b%18446744073709551616=2^b*(z%2^(64-b)):=by
 have:=mod_up z (b:=64-b) (by omega)
 rwa [show 64-(64-b)=b by omega] at this
theorem div_div_pow (x:Int) {b:Nat} (h:b≤63):x/2/2^(63-b)=x/2^(64-b):=by
 rw [Int.ediv_ediv_of_nonneg (by omega),show 64-b=(63-b)+1 by omega,Int.pow_succ,Int.mul_comm]
theorem shl_word {x c:Int} (hx:U x) {b:Nat} (hb:b≤63) (hc0:0≤c) (hc1:c<2^b) :
 Go.bits .or .u64 (IntKind.u64.wrap (x*2^b)) c=x*2^b%18446744073709551616+c∧x*2^b=x/2^(64-b)*18446744073709551616+x*2^b%18446744073709551616∧0≤x/2^(64-b)∧x/2^(64-b)<2^b∧U (x*2^b%18446744073709551616+c):=by
 obtain ⟨hx0,hx1⟩:=hx
 have hp:=pow_pos b
 have hp2:=pow_pos (64-b)
 have hpp:=w_split (b:=b) (by omega)
 have hb64:(2:Int)^b≤2^63:=pow_le_pow hb
 have e1:=mod_up' x (b:=b) (by omega)
 have m0:=Int.emod_nonneg x (show (2:Int)^(64-b)≠0 by omega)
 have m1:=Int.emod_lt_of_pos x hp2
 have hdm:=Int.mul_ediv_add_emod x (2^(64-b))
 have q0:=Int.ediv_nonneg hx0 (show (0:Int)≤2^(64-b) by omega)
 have q1:x/2^(64-b)<2^b:=by rw [Int.ediv_lt_iff_lt_mul hp2,Int.mul_comm,hpp];exact hx1
 have hle:2^b*(x%2^(64-b))+2^b≤18446744073709551616:=by
  rw [← hpp,Int.mul_comm (2^(64-b))]
  have:=Int.mul_le_mul_of_nonneg_left (show x%2^(64-b)+1≤2^(64-b) by omega) (Int.le_of_lt hp)
  rw [Int.mul_add,Int.mul_one] at this
  exact this
 have hnn:0≤2^b*(x%2^(64-b)):=Int.mul_nonneg (by omega) m0
 refine ⟨?_, ?_,q0,q1, ?_⟩
 · rw [wu,e1,or_join b _ _ hnn (Int.mul_emod_right _ _) (by omega) hc0 hc1 (by omega)]
 · rw [e1,← hpp]
   generalize x/2^(64-b)=q at *
   generalize x%2^(64-b)=r at *
   generalize (2:Int)^(64-b)=P at *
   generalize (2:Int)^b=Q at *
   rw [← hdm]
   grind
 · rw [e1];unfold U;omega
theorem nat_Shl_l {a:List Int} (ha:Wl a) {b m:Nat} (hb:b≤63) (hm:m≤100000) (hla:a.length≤900000000) (d:Nat) : ∀ (i:Nat) (out:List Int) (c:Int),i+d=a.length→out.length=m+i→Ws out→0≤c→c<2^b→nv out+Wp (m+i)*c=Wp m*(nv (a.take i)*2^b) →
 Ev (fun k=>nat_Shl.l0 k (b:Int) out c a (a.length:Int) i) (dg (Wp m*(nv a*2^b))):=by
 have hb64:(2:Int)^b≤2^63:=pow_le_pow hb
 induction d with
 | zero =>
   intro i out c hi hlo hwo h0 h1 he
   refine Ev.step (fun k=>nat_Shl.l0.eq_2 ..) ?_
   refine Ev.ifn (by omega) (Ev.ifp (by omega) ?_)
   rw [List.take_of_length_le (by omega)] at he
   rw [← he,← hlo,← nv_snoc]
   exact Ev.bind (nat_Trim_c ⟨Wl_snoc hwo (by unfold U;omega),by simp;omega⟩) (Ev.same rfl)
 | succ d ih =>
   intro i out c hi hlo hwo h0 h1 he
   have hx:=U_rd ha.1 (i:Int)
   obtain ⟨w1,w2,w3,w4,w5⟩:=shl_word hx hb h0 h1
   refine Ev.step (fun k=>nat_Shl.l0.eq_2 ..) ?_
   refine Ev.ifp (by omega) (Ev.ifp (by omega) (Ev.ifp (by omega) (Ev.ifp (by omega) ?_)))
   have e:wrap64 ((i:Int)+1)=((i+1:Nat):Int):=by rw [w64_id (by omega) (by omega)];omega
   have e63:(63-(b:Int)).toNat=63-b:=by omega
   rw [e,Int.toNat_natCast,e63,w1,div_div_pow _ hb]
   refine ih (i+1) _ _ (by omega) (by rw [List.length_append,hlo];rfl) (Wl_snoc hwo w5) w3 w4 ?_
   rw [nv_snoc,hlo,nv_take_succ (by omega),show m+(i+1)=m+i+1 by omega,Wp_succ]
   have hwa:=Wp_add m i
   generalize rd a (i:Int)/2^(64-b)=q at *
   generalize rd a (i:Int)*2^b%18446744073709551616=r at *
   rw [Int.add_mul,Int.mul_add (Wp m),← he]
   have:Wp i*rd a (i:Int)*2^b=Wp i*(q*18446744073709551616+r):=by rw [Int.mul_assoc,w2]
   rw [this,hwa]
   grind
theorem nat_Shl_c {a:List Int} (ha:Wl a) (hla:a.length≤900000000) (n:Int):Ev (fun k=>nat_Shl.f k a n) (dg (nv a*2^shn n)):=by
 have hs:=shn_le n
 obtain ⟨b,m,hb,hm,hbm⟩ : ∃ b m:Nat,b≤63∧m≤1024∧shn n=64*m+b:=⟨shn n%64,shn n/64,by omega,by omega,by omega⟩
 have e1:mn (mx n 0) 65536/64=(m:Int):=by rw [shn_eq];omega
 have e2:mn (mx n 0) 65536%64=(b:Int):=by rw [shn_eq];omega
 unfold nat_Shl.f
 rw [e1,e2]
 have e3:wrap64 (wrap64 ((m:Int)+(a.length:Int))+1)=(m:Int)+(a.length:Int)+1:=by
  rw [w64_id (n:=(m:Int)+(a.length:Int)) (by omega) (by omega),w64_id (by omega) (by omega)]
 rw [e3]
 refine Ev.ifp (by omega) (Ev.ifp (by omega) (Ev.ifp (by omega) ?_))
 rw [Int.toNat_natCast]
 refine (nat_Shl_l (m:=m) ha hb (by omega) hla a.length 0 (List.replicate m 0) 0 (by omega) (by simp) (Ws_zeros _) (by omega) (pow_pos b) ?_).eqr ?_
 · rw [nv_zeros];simp [nv]
 · rw [hbm,Int.pow_add,← Wp_two]
   congr 1
   grind
theorem shr_word {y z T:Int} (hy:U y) (hz:U z) {b:Nat} (hb:b≤63) (hT : ∃ t,T=z+18446744073709551616*t) :
 Go.bits .or .u64 (y/2^b) (IntKind.u64.wrap (IntKind.u64.wrap (z*2)*2^(63-b)))=y/2^b+2^(64-b)*(z%2^b)∧U (y/2^b+2^(64-b)*(z%2^b))∧(y+18446744073709551616*T)/2^b=y/2^b+2^(64-b)*(z%2^b)+18446744073709551616*(T/2^b):=by
 obtain ⟨hy0,hy1⟩:=hy
 obtain ⟨hz0,hz1⟩:=hz
 have hp:=pow_pos b
 have hp2:=pow_pos (64-b)
 have hpp:=w_split (b:=b) (by omega)
 have m0:=Int.emod_nonneg z (show (2:Int)^b≠0 by omega)
 have m1:=Int.emod_lt_of_pos z hp
 have q0:=Int.ediv_nonneg hy0 (show (0:Int)≤2^b by omega)
 have q1:y/2^b<2^(64-b):=by rw [Int.ediv_lt_iff_lt_mul hp,hpp];exact hy1
 have hle:2^(64-b)*(z%2^b)+2^(64-b)≤18446744073709551616:=by
  rw [← hpp]
  have:=Int.mul_le_mul_of_nonneg_left (show z%2^b+1≤2^b by omega) (Int.le_of_lt hp2)
  rw [Int.mul_add,Int.mul_one] at this
  exact this
 have hnn:0≤2^(64-b)*(z%2^b):=Int.mul_nonneg (by omega) m0
 have hsh:IntKind.u64.wrap (IntKind.u64.wrap (z*2)*2^(63-b))=2^(64-b)*(z%2^b):=by
  rw [wu,wu,mul_mod_left,← mod_up z (b:=b) (by omega),Int.mul_assoc,show (2:Int)*2^(63-b)=2^(64-b) by rw [show 64-b=(63-b)+1 by omega,Int.pow_succ,Int.mul_comm]]
 refine ⟨?_,by unfold U;omega, ?_⟩
 · rw [hsh,or_comm _ _ q0 (by omega) hnn (by omega),or_join (64-b) _ _ hnn (Int.mul_emod_right _ _) (by omega) q0 q1 (by omega)]
   omega
 · obtain ⟨t,ht⟩:=hT
   have hTm:T%2^b=z%2^b:=by
    rw [ht,← hpp,show z+2^(64-b)*2^b*t=z+2^b*(2^(64-b)*t) by grind,Int.add_mul_emod_self_left]
   have hTd:=Int.mul_ediv_add_emod T (2^b)
   have e:y+18446744073709551616*T=y+2^b*(2^(64-b)*T):=by rw [← hpp];grind
   rw [e,Int.add_mul_ediv_left _ _ (by omega)]
   conv=>lhs;rhs;rw [← hTd,hTm]
   rw [← hpp]
   grind
theorem shr_word0 {y T:Int} (hy:U y) {b:Nat} (hb:b≤63) (hT:T=0):Go.bits .or .u64 (y/2^b) 0=y/2^b∧U (y/2^b)∧(y+18446744073709551616*T)/2^b=y/2^b+18446744073709551616*(T/2^b):=by
 have h:=shr_word (T:=0) hy (z:=0) (by unfold U;omega) hb ⟨0,by omega⟩
 simp only [Int.zero_mul,Int.zero_emod,Int.mul_zero,Int.add_zero,Int.zero_ediv] at h
 subst hT
 refine ⟨?_,h.2.1,by simp⟩
 have h1:=h.1
 rw [wu,wu] at h1
 simpa using h1
theorem drop_rd {l:List Int} {i:Nat} (h:i<l.length):l.drop i=rd l (i:Int)::l.drop (i+1):=by
 rw [List.drop_eq_getElem_cons h]
 unfold rd
 rw [Int.toNat_natCast,List.getD_eq_getElem?_getD,List.getElem?_eq_getElem h]
 rfl
theorem nat_Shr_l {a:List Int} (ha:Wl a) {b m:Nat} (hb:b≤63) (d:Nat) : ∀ (i:Nat) (out:List Int),i+d=a.length→m≤i→out.length=i-m→Ws out→nv out+Wp (i-m)*(nv (a.drop i)/2^b)=nv (a.drop m)/2^b →
 Ev (fun k=>nat_Shr.l0 k a (b:Int) out i) (dg (nv (a.drop m)/2^b)):=by
 have hal:=ha.2
 induction d with
 | zero =>
   intro i out hi hmi hlo hwo he
   refine Ev.step (fun k=>nat_Shr.l0.eq_2 ..) ?_
   refine Ev.ifn (by omega) ?_
   rw [List.drop_eq_nil_of_le (show a.length≤i by omega)] at he
   simp [nv] at he
   rw [← he]
   exact Ev.bind (nat_Trim_c ⟨hwo,by omega⟩) (Ev.same rfl)
 | succ d ih =>
   intro i out hi hmi hlo hwo he
   have hx:=U_rd ha.1 (i:Int)
   rw [drop_rd (by omega),nv_cons] at he
   have HE:=Hd.mk he
   clear he
   have hsub:=sub_succ_of hmi
   have e:wrap64 ((i:Int)+1)=((i+1:Nat):Int):=by rw [w64_id (by omega) (by omega)];omega
   have e63:(63-(b:Int)).toNat=63-b:=by omega
   refine Ev.step (fun k=>nat_Shr.l0.eq_2 ..) ?_
   refine Ev.ifp (by omega) ?_
   rw [e,Int.toNat_natCast,e63]
   by_cases hn:((i+1:Nat):Int)<(a.length:Int)
   · refine Ev.ifp hn (Ev.ifp (by omega) (Ev.ifp (by omega) (Ev.ifp (by omega) ?_)))
     obtain ⟨w1,w2,w3'⟩:=shr_word (T:=nv (a.drop (i+1))) hx (U_rd ha.1 ((i+1:Nat):Int)) hb ⟨nv (a.drop (i+1+1)),by rw [drop_rd (show i+1<a.length by omega),nv_cons]⟩
     have W3:=Hd.mk w3'
     clear w3'
     rw [w1]
     refine ih (i+1) _ (by omega) (by omega) (by rw [List.length_append,hlo,hsub];rfl) (Wl_snoc hwo w2) ?_
     have he:=HE.out
     rw [W3.out] at he
     rw [nv_snoc,hlo,hsub,Wp_succ,← he]
     grind
   · refine Ev.ifn hn (Ev.ifp (by omega) (Ev.ifp (by omega) ?_))
     have hz:nv (a.drop (i+1))=0:=by rw [List.drop_eq_nil_of_le (by omega)];rfl
     obtain ⟨w1,w2,w3'⟩:=shr_word0 hx hb hz
     have W3:=Hd.mk w3'
     clear w3'
     rw [w1]
     refine ih (i+1) _ (by omega) (by omega) (by rw [List.length_append,hlo,hsub];rfl) (Wl_snoc hwo w2) ?_
     have he:=HE.out
     rw [W3.out] at he
     rw [nv_snoc,hlo,hsub,Wp_succ,← he]
     grind
theorem nv_div_Wp {a:List Int} (ha:Ws a) (m:Nat):nv a/Wp m=nv (a.drop m):=by
 have h1:=nv_split a m
 have h2:=nv_lt (Ws_take ha m)
 have h3:=nv_nonneg (Ws_take ha m)
 have h4:=Wp_pos m
 rw [List.length_take] at h2
 rcases Nat.lt_or_ge m a.length with h | h
 · rw [Nat.min_eq_left (by omega)] at h1 h2
   rw [h1,Int.add_mul_ediv_left _ _ (by omega),Int.ediv_eq_zero_of_lt h3 h2,Int.zero_add]
 · have h5:=nv_lt ha
   have h6:=Wp_le h
   rw [List.drop_eq_nil_of_le h,Int.ediv_eq_zero_of_lt (nv_nonneg ha) (by omega)]
   rfl
theorem nat_Shr_c {a:List Int} (ha:Wl a) {n:Int} (hn:n≤9223372036854775807):Ev (fun k=>nat_Shr.f k a n) (dg (nv a/2^n.toNat)):=by
 have hal:=ha.2
 have hmx:mx n 0=(n.toNat:Int):=by unfold mx;split<;>omega
 obtain ⟨b,m,hb,hbm⟩ : ∃ b m:Nat,b≤63∧n.toNat=64*m+b:=⟨n.toNat%64,n.toNat/64,by omega,by omega⟩
 have e1:wrap64 ((n.toNat:Int)/64)=(m:Int):=by rw [w64_id (by omega) (by omega)];omega
 have e2:(n.toNat:Int)%64=(b:Int):=by omega
 have hdiv:nv a/2^n.toNat=nv (a.drop m)/2^b:=by
  have hp:=Wp_pos m
  rw [hbm,Int.pow_add,← Wp_two,← Int.ediv_ediv_of_nonneg (by omega),nv_div_Wp ha.1]
 unfold nat_Shr.f
 rw [hmx,e1,e2,hdiv]
 by_cases h:(m:Int)≥(a.length:Int)
 · refine Ev.ifp h (Ev.same ?_)
   rw [List.drop_eq_nil_of_le (by omega)]
   simp [nv,dg_zero]
 · refine Ev.ifn h ?_
   rw [w64_id (by omega) (by omega)]
   refine Ev.ifp (by omega) (Ev.ifp (by omega) ?_)
   refine nat_Shr_l ha hb (a.length-m) m [] (by omega) (by omega) (by simp) Ws_nil ?_
   simp [nv,Wp_zero]

theorem bl_top_word {l:List Int} (h:Ws l) {n:Nat} (hn:(dg (nv l)).length=n+1):bl (nv l)=64*n+bl (rd l (n:Int))∧0<rd l (n:Int):=by
 have h0:=nv_nonneg h
 have hle:=dg_len_list h
 have h1:=nv_take_dg h
 rw [hn,nv_take_succ (by omega)] at h1
 have h2:=nv_lt (Ws_take h n)
 have h3:=nv_nonneg (Ws_take h n)
 rw [List.length_take,Nat.min_eq_left (by omega)] at h2
 have hp:=Wp_pos n
 have hpos:0<nv l:=by
  rcases (show nv l=0∨0<nv l by omega) with h4 | h4
  · rw [h4] at hn;simp [dg_zero] at hn
  · exact h4
 have h5:=dg_len_lt hpos
 rw [hn] at h5
 have hu:=U_rd h (n:Int)
 have hr:1≤rd l (n:Int):=by
  rcases (show rd l (n:Int)≤0∨1≤rd l (n:Int) by omega) with h6 | h6
  · have:Wp n*rd l (n:Int)≤0:=Int.mul_nonpos_of_nonneg_of_nonpos (by omega) h6
    simp at h5
    omega
  · exact h6
 have hq:nv l/2^(64*n)=rd l (n:Int):=by
  rw [← Wp_two,← h1,Int.add_mul_ediv_left _ _ (by omega),Int.ediv_eq_zero_of_lt h3 h2,Int.zero_add]
 have h7:2^(64*n)≤nv l:=by rw [← Wp_two];simpa using h5
 refine ⟨?_,by omega⟩
 rw [bl_shr h7,hq]
 omega
theorem nat_Bits_c {l:List Int} (h:Wl l):Ev (fun k=>nat_Bits.f k l) (bl (nv l)):=by
 have hl:=h.2
 have hle:=dg_len_list h.1
 have h0:=nv_nonneg h.1
 refine Ev.bind (nat_size_c h) ?_
 by_cases hz:(dg (nv l)).length=0
 · refine Ev.ifp (by omega) (Ev.same ?_)
   rw [(dg_len_zero h0).1 hz,bl_zero]
 · obtain ⟨n,hn⟩ : ∃ n,(dg (nv l)).length=n+1:=⟨(dg (nv l)).length-1,by omega⟩
   obtain ⟨hb,hr⟩:=bl_top_word h.1 hn
   have e:wrap64 (((dg (nv l)).length:Int)-1)=(n:Int):=by rw [w64_id (by omega) (by omega)];omega
   have hu:=U_rd h.1 (n:Int)
   have hb2:=bl_64 hu.2
   have hb3:=bl_nonneg (rd l (n:Int))
   refine Ev.ifn (by omega) ?_
   rw [e]
   refine Ev.ifp (by omega) (Ev.ifp (by omega) (Ev.bind (limb_Len_c hu) (Ev.same ?_)))
   rw [hb,w64_id (n:=64*(n:Int)) (by omega) (by omega),w64_id (by omega) (by omega)]
def bitI (x i:Int):Bool:=decide (0≤i)&&decide (x/2^i.toNat%2=1)
theorem bit_list {l:List Int} (h:Ws l) (i:Nat):nv l/2^i%2=rd l ((i/64:Nat):Int)/2^(i%64)%2:=by
 have e:i=64*(i/64)+i%64:=by omega
 have hp:=Wp_pos (i/64)
 conv=>lhs;rw [e,Int.pow_add,← Wp_two,← Int.ediv_ediv_of_nonneg (Int.le_of_lt hp),nv_div_Wp h]
 rcases Nat.lt_or_ge (i/64) l.length with h1 | h1
 · rw [drop_rd h1,nv_cons]
   have e2:(18446744073709551616:Int)=2^(i%64)*(2^(63-i%64)*2):=by
    rw [show (2:Int)^(63-i%64)*2=2^(64-i%64) by rw [show 64-i%64=(63-i%64)+1 by omega,Int.pow_succ],← Int.pow_add,show i%64+(64-i%64)=64 by omega];rfl
   have hp2:=pow_pos (i%64)
   rw [e2,Int.mul_assoc,Int.add_mul_ediv_left _ _ (by omega),show (2:Int)^(63-i%64)*2*nv (l.drop (i/64+1))=2*(2^(63-i%64)*nv (l.drop (i/64+1))) by grind,Int.add_mul_emod_self_left]
 · rw [List.drop_eq_nil_of_le h1]
   unfold rd
   rw [List.getD_eq_getElem?_getD,Int.toNat_natCast,List.getElem?_eq_none h1]
   simp [nv]
theorem word_bit {x:Int} (h:U x) (i:Nat) (hi:i<64):(Go.bits .and .u64 (shr .u64 x (i:Int)) 1==1)=decide (x/2^i%2=1):=by
 have hr:=div_pow_range h i
 rw [shr_u _ _ (by omega),Int.toNat_natCast,and1 _ hr.1 (by unfold U at h;omega)]
 by_cases hb:x/2^i%2=1<;>simp [hb]
def bitF (l0:List Int) (a1:Int):Option (Bool):=if a1≥0 then (if (wrap64 (Int.tdiv a1 64))<(l0.length:Int) then (if 0≤(wrap64 (Int.tdiv a1 64)) then (if 0≤(Int.tmod a1 64) then (some ((Go.bits .and .u64 (shr .u64 (rd l0 (wrap64 (Int.tdiv a1 64))) (Int.tmod a1 64)) 1)==1)) else (none)) else (none)) else (some false)) else (some false)
theorem bitF_c {l:List Int} (h:Wl l) {i:Int} (hi:i≤9223372036854775807):bitF l i=some (bitI (nv l) i):=by
 have hl:=h.2
 unfold bitF bitI
 by_cases h0:i≥0
 · obtain ⟨n,rfl⟩:=Int.eq_ofNat_of_zero_le h0
   have hb:=bit_list h.1 n
   rw [if_pos h0,Int.tdiv_eq_ediv_of_nonneg h0,Int.tmod_eq_emod_of_nonneg h0,w64_id (by omega) (by omega),Int.toNat_natCast,hb]
   have e1:(n:Int)/64=((n/64:Nat):Int):=by omega
   have e2:(n:Int)%64=((n%64:Nat):Int):=by omega
   rw [e1,e2]
   by_cases h1:((n/64:Nat):Int)<(l.length:Int)
   · rw [if_pos h1,if_pos (by omega),if_pos (by omega),word_bit (U_rd h.1 _) _ (by omega)]
     simp
   · rw [if_neg h1]
     have:rd l ((n/64:Nat):Int)=0:=by
      unfold rd
      rw [List.getD_eq_getElem?_getD,Int.toNat_natCast,List.getElem?_eq_none (by omega)]
      rfl
     rw [this]
     simp
 · rw [if_neg h0]
   simp;omega
theorem nat_Bit_c {l:List Int} (h:Wl l) {i:Int} (hi:i≤9223372036854775807):nat_Bit.f l i=some (bitI (nv l) i):=bitF_c h hi
def tzF:Nat→Int→Int
 | 0,_=>0
 | k+1,x=>if x%2=1 then 0 else 1+tzF k (x/2)
def tz (x:Int):Int:=if x≤0 then 0 else tzF x.toNat x
theorem tzF_spec : ∀ (k:Nat) (x:Int),0<x→x.toNat≤k→ ∃ n:Nat,tzF k x=n∧x/2^n%2=1∧ ∀ j,j<n→x/2^j%2=0
 | 0,x,h,hk=>by omega
 | k+1,x,h,hk=>by
   unfold tzF
   by_cases h1:x%2=1
   · exact ⟨0,by rw [if_pos h1];rfl,by simpa using h1,fun j hj=>by omega⟩
   · obtain ⟨n,e,h2,h3⟩:=tzF_spec k (x/2) (by omega) (by omega)
     have hd : ∀ j:Nat,x/2^(j+1)=x/2/2^j:=fun j=>by
      rw [Int.ediv_ediv_of_nonneg (by omega),Int.pow_succ,Int.mul_comm]
     refine ⟨n+1,by rw [if_neg h1,e];omega,by rw [hd];exact h2,fun j hj=> ?_⟩
     cases j with
     | zero=>rw [Int.pow_zero,Int.ediv_one];omega
     | succ j=>rw [hd];exact h3 j (by omega)
theorem tz_spec {x:Int} (h:0<x) : ∃ n:Nat,tz x=n∧x/2^n%2=1∧ ∀ j,j<n→x/2^j%2=0:=by
 unfold tz
 rw [if_neg (by omega)]
 exact tzF_spec _ x h (Nat.le_refl _)
theorem tz_lt {x:Int} (h:0<x):tz x<bl x:=by
 obtain ⟨n,e,h1,_⟩:=tz_spec h
 rcases Int.lt_or_le (tz x) (bl x) with h2 | h2
 · exact h2
 · have h3:=bl_lt x
   have h4:=pow_le_pow (a:=(bl x).toNat) (b:=n) (by omega)
   rw [Int.ediv_eq_zero_of_lt (by omega) (by omega)] at h1
   omega
theorem nat_Even_l {l:List Int} (h:Wl l) {n:Nat} (he:tz (nv l)=n) (h1:nv l/2^n%2=1) (h2 : ∀ j,j<n→nv l/2^j%2=0) {len:Int} (hlen:(n:Int)<len) (hn:n≤100000000000) (d:Nat) : ∀ i:Nat,i+d=n→Ev (fun k=>nat_Even.l0 k l len i) (n:Int):=by
 induction d with
 | zero =>
   intro i hi
   obtain rfl:i=n:=by omega
   refine Ev.step (fun k=>nat_Even.l0.eq_2 ..) ?_
   refine Ev.ifp hlen (Ev.bindc (nat_Bit_c h (by omega)) ?_)
   refine Ev.ifp ?_ (Ev.same rfl)
   unfold bitI
   rw [Int.toNat_natCast,h1]
   simp
 | succ d ih =>
   intro i hi
   refine Ev.step (fun k=>nat_Even.l0.eq_2 ..) ?_
   refine Ev.ifp (by omega) (Ev.bindc (nat_Bit_c h (by omega)) ?_)
   refine Ev.ifn ?_ ?_
   · unfold bitI
     rw [Int.toNat_natCast,h2 i (by omega)]
     simp
   · have e:wrap64 ((i:Int)+1)=((i+1:Nat):Int):=by rw [w64_id (by omega) (by omega)];omega
     rw [e]
     exact ih (i+1) (by omega)
theorem nat_Even_c {l:List Int} (h:Wl l):Ev (fun k=>nat_Even.f k l) (tz (nv l)):=by
 have hl:=h.2
 have hb:=bl_nv h.1
 have h0:=nv_nonneg h.1
 refine Ev.bind (nat_Bits_c h) ?_
 rcases (show nv l=0∨0<nv l by omega) with hz | hp
 · rw [hz]
   refine Ev.step (fun k=>nat_Even.l0.eq_2 ..) ?_
   exact Ev.ifn (by rw [bl_zero];omega) (Ev.same rfl)
 · obtain ⟨n,e,h1,h2⟩:=tz_spec hp
   have:=tz_lt hp
   rw [e]
   exact nat_Even_l h e h1 h2 (by omega) (by omega) n 0 (by omega)
theorem ref02_Size_eq (l:List Int) : ∀ (k:Nat) (i:Int),gr02_Size.l0 k l i=nat_size.l0 k l i:=by
 intro k
 induction k with
 | zero=>intros;rfl
 | succ k ih=>intros;simp only [gr02_Size.l0,nat_size.l0,ih]
theorem ref02_Size_c {l:List Int} (h:Wl l):Ev (fun k=>gr02_Size.f k l) ((dg (nv l)).length:Int):=Ev.congr (fun k=>ref02_Size_eq ..) (nat_size_c h)
theorem ref02_Trim_l {l:List Int} (hl:l.length≤1000000000) {n:Nat} (hn:n≤l.length) (d:Nat) : ∀ i:Nat,i+d=n→Ev (fun k=>gr02_Trim.l0 k l (l.take i) (n:Int) i) (l.take n):=by
 induction d with
 | zero =>
   intro i hi
   refine Ev.step (fun k=>gr02_Trim.l0.eq_2 ..) ?_
   obtain rfl:i=n:=by omega
   exact Ev.ifn (by omega) (Ev.same rfl)
 | succ d ih =>
   intro i hi
   have e:wrap64 ((i:Int)+1)=((i+1:Nat):Int):=by rw [w64_id (by omega) (by omega)];omega
   refine Ev.step (fun k=>gr02_Trim.l0.eq_2 ..) ?_
   refine Ev.ifp (by omega) (Ev.ifp (by omega) (Ev.ifp (by omega) (Ev.ifp (by rw [List.length_take];omega) ?_)))
   rw [e,← take_rd (by omega)]
   exact ih (i+1) (by omega)
theorem ref02_Trim_c {l:List Int} (h:Wl l):Ev (fun k=>gr02_Trim.f k l) (dg (nv l)):=by
 have h1:=dg_len_list h.1
 refine Ev.bind (ref02_Size_c h) ?_
 have:=ref02_Trim_l h.2 h1 (dg (nv l)).length 0 (by omega)
 rw [take_dg h.1] at this
 exact this
theorem ref02_Right_c {l:List Int} (h:Wl l):Ev (fun k=>gr02_Right.f k l) (decide (dg (nv l)=l)):=by
 refine Ev.bind (ref02_Size_c h) (Ev.same ?_)
 have h1:=take_dg h.1
 by_cases he:(dg (nv l)).length=l.length
 · rw [he,List.take_length] at h1
   simp [← h1]
 · have:dg (nv l)≠l:=fun e=>he (by rw [e])
   simp [this];omega
theorem rd_out {l:List Int} {i:Nat} (h:l.length≤i):rd l (i:Int)=0:=by
 unfold rd
 rw [List.getD_eq_getElem?_getD,Int.toNat_natCast,List.getElem?_eq_none h]
 rfl
theorem ref02_at_c (l:List Int) (i:Nat):gr02_at.f l (i:Int)=some (rd l (i:Int)):=by
 unfold gr02_at.f
 rw [if_neg (by omega)]
 by_cases h:(i:Int)≥(l.length:Int)
 · rw [if_pos h,rd_out (by omega)]
 · rw [if_neg h,if_pos (by omega),if_pos (by omega)]
theorem nv_take_next (l:List Int) (i:Nat):nv (l.take (i+1))=nv (l.take i)+Wp i*rd l (i:Int):=by
 rcases Nat.lt_or_ge i l.length with h | h
 · exact nv_take_succ h
 · rw [rd_out h,take_zero_of_ge h,Int.mul_zero,Int.add_zero]
theorem nv_take_lt {l:List Int} (h:Ws l) (i:Nat):nv (l.take i)<Wp i:=by
 have h1:=nv_lt (Ws_take h i)
 have h2:=Wp_le (List.length_take_le i l)
 omega
theorem take_lt' {a b:List Int} (ha:Ws a) (hb:Ws b) {i:Nat} (hlt:rd a (i:Int)<rd b (i:Int)):nv (a.take (i+1))<nv (b.take (i+1)):=by
 rw [nv_take_next,nv_take_next]
 have c1:=nv_take_lt ha i
 have c2:=nv_nonneg (Ws_take hb i)
 have c3:=Wp_pos i
 have c4:=Int.mul_le_mul_of_nonneg_left (show rd a (i:Int)+1≤rd b (i:Int) by omega) (Int.le_of_lt c3)
 rw [Int.mul_add,Int.mul_one] at c4
 omega
theorem cmpI_add (x y z:Int):cmpI x y=cmpI (x+z) (y+z):=by unfold cmpI;split<;>split<;>first | omega | (split<;>first | omega | (split<;>omega))
theorem ref02_Cmp_l {a b:List Int} (ha:Ws a) (hb:Ws b) (n:Nat) (hn:n≤2000000000):Ev (fun k=>gr02_Cmp.l0 k a b ((n:Int)-1)) (cmpI (nv (a.take n)) (nv (b.take n))):=by
 induction n with
 | zero =>
   refine Ev.step (fun k=>gr02_Cmp.l0.eq_2 ..) ?_
   exact Ev.ifn (by omega) (Ev.same rfl)
 | succ n ih =>
   have e:((n+1:Nat):Int)-1=(n:Int):=by omega
   rw [e]
   refine Ev.step (fun k=>gr02_Cmp.l0.eq_2 ..) ?_
   refine Ev.ifp (by omega) (Ev.bindc (ref02_at_c a n) (Ev.bindc (ref02_at_c b n) ?_))
   by_cases c1:rd a (n:Int)<rd b (n:Int)
   · exact Ev.ifp c1 (Ev.same (by rw [cmpI_lt (take_lt' ha hb c1)]))
   · refine Ev.ifn c1 ?_
     by_cases c2:rd a (n:Int)>rd b (n:Int)
     · exact Ev.ifp c2 (Ev.same (by rw [cmpI_gt (take_lt' hb ha c2)]))
     · refine Ev.ifn c2 ?_
       rw [w64_id (by omega) (by omega)]
       have e2:rd a (n:Int)=rd b (n:Int):=by omega
       refine (ih (by omega)).eqr ?_
       rw [nv_take_next,nv_take_next,e2]
       exact cmpI_add ..
theorem ref02_Cmp_c {a b:List Int} (ha:Wl a) (hb:Wl b):Ev (fun k=>gr02_Cmp.f k a b) (cmpI (nv a) (nv b)):=by
 have hal:=ha.2
 have hbl:=hb.2
 have hm:mx (a.length:Int) (b.length:Int)=((max a.length b.length:Nat):Int):=by unfold mx;split<;>omega
 unfold gr02_Cmp.f
 rw [hm,w64_id (by omega) (by omega)]
 refine (ref02_Cmp_l ha.1 hb.1 (max a.length b.length) (by omega)).eqr ?_
 rw [List.take_of_length_le (by omega),List.take_of_length_le (by omega)]
theorem ref02_Bits_c {l:List Int} (h:Wl l):Ev (fun k=>gr02_Bits.f k l) (bl (nv l)):=by
 have hl:=h.2
 have hle:=dg_len_list h.1
 have h0:=nv_nonneg h.1
 refine Ev.bind (ref02_Size_c h) ?_
 by_cases hz:(dg (nv l)).length=0
 · refine Ev.ifp (by omega) (Ev.same ?_)
   rw [(dg_len_zero h0).1 hz,bl_zero]
 · obtain ⟨n,hn⟩ : ∃ n,(dg (nv l)).length=n+1:=⟨(dg (nv l)).length-1,by omega⟩
   obtain ⟨hb,hr⟩:=bl_top_word h.1 hn
   have e:wrap64 (((dg (nv l)).length:Int)-1)=(n:Int):=by rw [w64_id (by omega) (by omega)];omega
   have hu:=U_rd h.1 (n:Int)
   have hb2:=bl_64 hu.2
   have hb3:=bl_nonneg (rd l (n:Int))
   refine Ev.ifn (by omega) ?_
   rw [e]
   refine Ev.ifp (by omega) (Ev.ifp (by omega) (Ev.bind (ref01_Len_c hu) (Ev.same ?_)))
   rw [hb,w64_id (n:=64*((dg (nv l)).length:Int)) (by omega) (by omega),w64_id (n:=64*((dg (nv l)).length:Int)-64) (by omega) (by omega),w64_id (by omega) (by omega)]
   congr 1;omega
theorem ref02_Bit_eq (l:List Int) {i:Int} (hi:i≤9223372036854775807):gr02_Bit.f l i=bitF l i:=by
 unfold gr02_Bit.f bitF
 by_cases h:i≥0
 · rw [if_pos h,if_pos h,Int.tmod_eq_emod_of_nonneg h,wu_id (n:=i%64) (by omega) (by omega)]
 · rw [if_neg h,if_neg h]
theorem ref02_Bit_c {l:List Int} (h:Wl l) {i:Int} (hi:i≤9223372036854775807):gr02_Bit.f l i=some (bitI (nv l) i):=(ref02_Bit_eq l hi).trans (bitF_c h hi)
theorem ref02_Even_l {l:List Int} (h:Wl l) {n:Nat} (h1:nv l/2^n%2=1) (h2 : ∀ j,j<n→nv l/2^j%2=0) (hn:n≤100000000000) (d:Nat) : ∀ i:Nat,i+d=n→Ev (fun k=>gr02_Even.l0 k l i) (n:Int):=by
 induction d with
 | zero =>
   intro i hi
   obtain rfl:i=n:=by omega
   refine Ev.step (fun k=>gr02_Even.l0.eq_2 ..) ?_
   refine Ev.bindc (ref02_Bit_c h (by omega)) ?_
   refine Ev.ifp ?_ (Ev.same rfl)
   unfold bitI
   rw [Int.toNat_natCast,h1]
   simp
 | succ d ih =>
   intro i hi
   refine Ev.step (fun k=>gr02_Even.l0.eq_2 ..) ?_
   refine Ev.bindc (ref02_Bit_c h (by omega)) ?_
   refine Ev.ifn ?_ ?_
   · unfold bitI
     rw [Int.toNat_natCast,h2 i (by omega)]
     simp
   · have e:wrap64 ((i:Int)+1)=((i+1:Nat):Int):=by rw [w64_id (by omega) (by omega)];omega
     rw [e]
     exact ih (i+1) (by omega)
theorem ref02_Even_c {l:List Int} (h:Wl l):Ev (fun k=>gr02_Even.f k l) (tz (nv l)):=by
 have hl:=h.2
 have hb:=bl_nv h.1
 have h0:=nv_nonneg h.1
 refine Ev.bind (ref02_Size_c h) ?_
 rcases (show nv l=0∨0<nv l by omega) with hz | hp
 · rw [hz]
   exact Ev.ifp rfl (Ev.same rfl)
 · obtain ⟨n,e,h1,h2⟩:=tz_spec hp
   have:=tz_lt hp
   refine Ev.ifn (fun h=> ?_) ?_
   · have:=(dg_len_zero h0).1 (by omega);omega
   · rw [e]
     exact ref02_Even_l h h1 h2 (by omega) n 0 (by omega)

def hv:List Int→Int
 | []=>0
 | x::l=>x+4294967296*hv l
theorem hv_cons (x:Int) (l:List Int):hv (x::l)=x+4294967296*hv l:=rfl
def Hs (l:List Int):Prop:= ∀ x∈l,0≤x∧x<4294967296
def Hp (n:Nat):Int:=4294967296^n
theorem Hp_zero:Hp 0=1:=rfl
theorem Hp_succ (n:Nat):Hp (n+1)=4294967296*Hp n:=by unfold Hp;rw [Int.pow_succ,Int.mul_comm]
theorem Hp_pos (n:Nat):0<Hp n:=by
 induction n with
 | zero=>decide
 | succ n ih=>rw [Hp_succ];omega
theorem Hp_le {a b:Nat} (h:a≤b):Hp a≤Hp b:=by
 induction b with
 | zero=>obtain rfl:a=0:=by omega
         exact Int.le_refl _
 | succ b ih =>
   rcases (show a=b+1∨a≤b by omega) with h1 | h1
   · rw [h1];exact Int.le_refl _
   · have:=ih h1;have:=Hp_pos b;rw [Hp_succ];omega
theorem Hp_Wp (n:Nat):Hp (2*n)=Wp n:=by
 induction n with
 | zero=>rfl
 | succ n ih=>rw [show 2*(n+1)=2*n+1+1 by omega,Hp_succ,Hp_succ,ih,Wp_succ];omega
theorem Hs_cons {x:Int} {l:List Int} :Hs (x::l)↔(0≤x∧x<4294967296)∧Hs l:=by unfold Hs;simp
theorem Hs_app {a b:List Int} :Hs (a++b)↔Hs a∧Hs b:=by
 unfold Hs
 simp only [List.mem_append]
 exact ⟨fun h=>⟨fun x hx=>h x (.inl hx),fun x hx=>h x (.inr hx)⟩,fun h x hx=>hx.elim (h.1 x) (h.2 x)⟩
theorem Hs_snoc {a:List Int} {x:Int} (ha:Hs a) (h0:0≤x) (h1:x<4294967296):Hs (a++ [x]):=Hs_app.2 ⟨ha,fun y hy=>by simp at hy;rw [hy];exact ⟨h0,h1⟩⟩
theorem Hs_nil:Hs []:=fun x h=>by simp at h
theorem Hs_take {l:List Int} (h:Hs l) (n:Nat):Hs (l.take n):=fun x hx=>h x (List.mem_of_mem_take hx)
theorem Hs_drop {l:List Int} (h:Hs l) (n:Nat):Hs (l.drop n):=fun x hx=>h x (List.mem_of_mem_drop hx)
theorem Hs_Ws {l:List Int} (h:Hs l):Ws l:=fun x hx=>⟨(h x hx).1,by have:=(h x hx).2;omega⟩
theorem Hs_rd {l:List Int} (h:Hs l) (i:Int):0≤rd l i∧rd l i<4294967296:=by
 unfold rd
 rw [List.getD_eq_getElem?_getD]
 rcases Nat.lt_or_ge i.toNat l.length with hi | hi
 · rw [List.getElem?_eq_getElem hi];exact h _ (List.getElem_mem hi)
 · rw [List.getElem?_eq_none hi];simp
theorem hv_app (a b:List Int):hv (a++b)=hv a+Hp a.length*hv b:=by
 induction a with
 | nil=>simp [hv,Hp_zero]
 | cons x a ih=>rw [List.cons_append,List.length_cons,Hp_succ,hv_cons,hv_cons,ih];grind
theorem hv_one (x:Int):hv [x]=x:=by rw [hv_cons];show x+4294967296*0=x;omega
theorem hv_snoc (a:List Int) (x:Int):hv (a++ [x])=hv a+Hp a.length*x:=by rw [hv_app,hv_one]
theorem hv_nonneg {l:List Int} (h:Hs l):0≤hv l:=by
 induction l with
 | nil=>exact Int.le_refl 0
 | cons x l ih =>
   have h1:=Hs_cons.1 h
   have h2:=ih h1.2
   rw [hv_cons];omega
theorem hv_lt {l:List Int} (h:Hs l):hv l<Hp l.length:=by
 induction l with
 | nil=>decide
 | cons x l ih =>
   have h1:=Hs_cons.1 h
   have h2:=ih h1.2
   rw [List.length_cons,Hp_succ,hv_cons];omega
theorem hv_take_next (l:List Int) (i:Nat):hv (l.take (i+1))=hv (l.take i)+Hp i*rd l (i:Int):=by
 rcases Nat.lt_or_ge i l.length with h | h
 · rw [take_rd h,hv_snoc,List.length_take,Nat.min_eq_left (by omega)]
 · rw [rd_out h,take_zero_of_ge h,Int.mul_zero,Int.add_zero]
theorem hv_take_lt {l:List Int} (h:Hs l) (i:Nat):hv (l.take i)<Hp i:=by
 have h1:=hv_lt (Hs_take h i)
 have h2:=Hp_le (List.length_take_le i l)
 omega
theorem hv_split (l:List Int) (i:Nat):hv l=hv (l.take i)+Hp (min i l.length)*hv (l.drop i):=by
 have:=hv_app (l.take i) (l.drop i)
 rw [List.take_append_drop,List.length_take] at this
 exact this
theorem hv_zero_of {r:List Int} (h:Ws r) (h0:nv r=0):hv r=0:=by
 induction r with
 | nil=>rfl
 | cons x r ih =>
   have h1:=Ws_cons.1 h
   have h2:=nv_nonneg h1.2
   unfold U at h1
   rw [nv_cons] at h0
   have:=ih h1.2 (by omega)
   rw [hv_cons,this];omega
def hl:List Int→List Int
 | []=> []
 | x::l=>x%4294967296::x/4294967296::hl l
theorem hl_Hs {l:List Int} (h:Ws l):Hs (hl l):=by
 induction l with
 | nil=>exact Hs_nil
 | cons x l ih =>
   have h1:=Ws_cons.1 h
   unfold U at h1
   exact Hs_cons.2 ⟨by omega,Hs_cons.2 ⟨by omega,ih h1.2⟩⟩
theorem hl_hv (l:List Int):hv (hl l)=nv l:=by
 induction l with
 | nil=>rfl
 | cons x l ih=>show hv (x%4294967296::x/4294967296::hl l)=_;rw [hv_cons,hv_cons,ih,nv_cons];omega
theorem hl_len (l:List Int):(hl l).length=2*l.length:=by
 induction l with
 | nil=>rfl
 | cons x l ih=>show (x%4294967296::x/4294967296::hl l).length=_;simp [ih];omega
theorem hl_app (a b:List Int):hl (a++b)=hl a++hl b:=by
 induction a with
 | nil=>rfl
 | cons x a ih=>show x%4294967296::x/4294967296::hl (a++b)=_;rw [ih];rfl
def hh (l:List Int):List Int:=dg (nv (hl l))
theorem hh_spec {l:List Int} (h:Ws l):Hs (hh l)∧hv (hh l)=nv l∧(hh l).length≤2*l.length:=by
 have h1:=hl_Hs h
 obtain ⟨r,hr,hz⟩:=dg_prefix (Hs_Ws h1)
 have h2:Hs (dg (nv (hl l))++r):=hr▸h1
 have h3:=Hs_app.1 h2
 refine ⟨h3.1, ?_, ?_⟩
 · have h4:=hv_app (dg (nv (hl l))) r
   rw [← hr,hl_hv,hv_zero_of (Hs_Ws h3.2) hz,Int.mul_zero,Int.add_zero] at h4
   exact h4.symm
 · have:=dg_len_list (Hs_Ws h1)
   rw [hl_len] at this
   exact this
theorem ref02_Halves_l {a:List Int} (ha:Wl a) (hla:a.length≤400000000) (d:Nat) : ∀ i:Nat,i+d=a.length→Ev (fun k=>gr02_Halves.l0 k a (hl (a.take i)) (a.length:Int) i) (hh a):=by
 induction d with
 | zero =>
   intro i hi
   refine Ev.step (fun k=>gr02_Halves.l0.eq_2 ..) ?_
   refine Ev.ifn (by omega) ?_
   rw [List.take_of_length_le (by omega)]
   exact Ev.bind (ref02_Trim_c ⟨Hs_Ws (hl_Hs ha.1),by rw [hl_len];omega⟩) (Ev.same rfl)
 | succ d ih =>
   intro i hi
   have hx:=U_rd ha.1 (i:Int)
   have e:wrap64 ((i:Int)+1)=((i+1:Nat):Int):=by rw [w64_id (by omega) (by omega)];omega
   have hlen:(hl (a.take i)).length=2*i:=by rw [hl_len,List.length_take];omega
   refine Ev.step (fun k=>gr02_Halves.l0.eq_2 ..) ?_
   refine Ev.ifp (by omega) (Ev.ifp (by omega) (Ev.ifp (by omega) (Ev.ifp (by omega) ?_)))
   refine Ev.bindc rfl (Ev.ifp (by rw [List.length_append,hlen];simp;omega) ?_)
   unfold U at hx
   rw [e,and32 _ hx.1 hx.2]
   have e2:hl (a.take i)++ [rd a (i:Int)%4294967296]++ [rd a (i:Int)/4294967296]=hl (a.take (i+1)):=by
    rw [take_rd (by omega),hl_app,List.append_assoc];rfl
   rw [e2]
   exact ih (i+1) (by omega)
theorem ref02_Halves_c {a:List Int} (ha:Wl a) (hla:a.length≤400000000):Ev (fun k=>gr02_Halves.f k a) (hh a):=ref02_Halves_l ha hla a.length 0 (by omega)
theorem ref02_Whole_l {h:List Int} (hh:Hs h) (hl:h.length≤1000000000) (d:Nat) : ∀ (j:Nat) (out:List Int),2*j+d≥h.length→out.length=j→Ws out→j≤600000000→nv out=hv (h.take (2*j))→Ev (fun k=>gr02_Whole.l0 k h out ((2*j:Nat):Int)) (dg (hv h)):=by
 induction d with
 | zero =>
   intro j out hj hlo hwo hj2 he
   refine Ev.step (fun k=>gr02_Whole.l0.eq_2 ..) ?_
   refine Ev.ifn (by omega) ?_
   rw [List.take_of_length_le (by omega)] at he
   rw [← he]
   exact Ev.bind (ref02_Trim_c ⟨hwo,by omega⟩) (Ev.same rfl)
 | succ d ih =>
   intro j out hj hlo hwo hj2 he
   refine Ev.step (fun k=>gr02_Whole.l0.eq_2 ..) ?_
   by_cases hend:((2*j:Nat):Int)<(h.length:Int)
   · have x0:=Hs_rd hh ((2*j:Nat):Int)
     have y0:=Hs_rd hh ((2*j+1:Nat):Int)
     have e1:wrap64 (((2*j:Nat):Int)+1)=((2*j+1:Nat):Int):=by rw [w64_id (by omega) (by omega)];omega
     have e2:wrap64 (((2*j:Nat):Int)+2)=((2*(j+1):Nat):Int):=by rw [w64_id (by omega) (by omega)];omega
     have step : ∀ w:Int,w=rd h ((2*j:Nat):Int)+4294967296*rd h ((2*j+1:Nat):Int)→Ev (fun k=>gr02_Whole.l0 k h (out++ [w]) ((2*(j+1):Nat):Int)) (dg (hv h)):=by
      intro w hw
      refine ih (j+1) _ (by omega) (by rw [List.length_append,hlo];rfl) (Wl_snoc hwo (by unfold U;omega)) (by omega) ?_
      rw [nv_snoc,hlo,he,show 2*(j+1)=2*j+1+1 by omega,hv_take_next,hv_take_next,Hp_succ,Hp_Wp,hw]
      grind
     refine Ev.ifp hend (Ev.ifp (by omega) ?_)
     rw [e1,e2]
     by_cases hn:((2*j+1:Nat):Int)<(h.length:Int)
     · refine Ev.ifp hn (Ev.ifp (by omega) (Ev.ifp (by omega) (step _ ?_)))
       rw [wu_id (by omega) (by omega),or_comm _ _ (by omega) (by omega) (by omega) (by omega),or_join 32 _ _ (by omega) (by omega) (by omega) (by omega) (by omega) (by omega)]
       omega
     · refine Ev.ifn hn (Ev.ifp (by omega) (step _ ?_))
       rw [rd_out (i:=2*j+1) (by omega)]
       omega
   · refine Ev.ifn hend ?_
     rw [List.take_of_length_le (by omega)] at he
     rw [← he]
     exact Ev.bind (ref02_Trim_c ⟨hwo,by omega⟩) (Ev.same rfl)
theorem ref02_Whole_c {h:List Int} (hh:Hs h) (hl:h.length≤1000000000):Ev (fun k=>gr02_Whole.f k h) (dg (hv h)):=ref02_Whole_l hh hl h.length 0 [] (by omega) rfl Ws_nil (by omega) rfl
theorem ref02_Add_l {x y:List Int} (hx:Hs x) (hy:Hs y) {n:Nat} (hn:n≤900000000) (hxn:x.length<n) (hyn:y.length<n) (d:Nat) : ∀ (i:Nat) (out:List Int) (c:Int),i+d=n→out.length=i→Hs out→0≤c→c≤1→hv out+Hp i*c=hv (x.take i)+hv (y.take i)→Ev (fun k=>gr02_Add.l0 k x y out c (n:Int) i) (dg (hv x+hv y)):=by
 induction d with
 | zero =>
   intro i out c hi hlo hwo h0 h1 he
   refine Ev.step (fun k=>gr02_Add.l0.eq_2 ..) ?_
   refine Ev.ifn (by omega) ?_
   obtain ⟨m,rfl⟩ : ∃ m,i=m+1:=⟨i-1,by omega⟩
   have b1:=hv_take_lt hx m
   have b2:=hv_take_lt hy m
   have b3:=hv_nonneg hwo
   have hp:=Hp_pos m
   rw [List.take_of_length_le (by omega)] at b1 b2
   rw [List.take_of_length_le (by omega),List.take_of_length_le (by omega),Hp_succ] at he
   have hc:c=0:=by
    rcases (show c=0∨c=1 by omega) with h | h
    · exact h
    · subst h;omega
   subst hc
   rw [← he,Int.mul_zero,Int.add_zero]
   exact Ev.bind (ref02_Whole_c hwo (by omega)) (Ev.same rfl)
 | succ d ih =>
   intro i out c hi hlo hwo h0 h1 he
   have HE:=Hd.mk he
   clear he
   have x0:=Hs_rd hx (i:Int)
   have y0:=Hs_rd hy (i:Int)
   have e:wrap64 ((i:Int)+1)=((i+1:Nat):Int):=by rw [w64_id (by omega) (by omega)];omega
   refine Ev.step (fun k=>gr02_Add.l0.eq_2 ..) ?_
   refine Ev.ifp (by omega) (Ev.bindc (ref02_at_c x i) (Ev.bindc (ref02_at_c y i) (Ev.ifp (by omega) ?_)))
   rw [e,wu_id (n:=c+rd x (i:Int)) (by omega) (by omega),wu_id (by omega) (by omega),and32 _ (by omega) (by omega)]
   refine ih (i+1) _ _ (by omega) (by rw [List.length_append,hlo];rfl) (Hs_snoc hwo (by omega) (by omega)) (by omega) (by omega) ?_
   have he:=HE.out
   rw [hv_snoc,hlo,hv_take_next,hv_take_next,Hp_succ]
   have hs:c+rd x (i:Int)+rd y (i:Int)=4294967296*((c+rd x (i:Int)+rd y (i:Int))/4294967296)+(c+rd x (i:Int)+rd y (i:Int))%4294967296:=by omega
   generalize (c+rd x (i:Int)+rd y (i:Int))/4294967296=q at *
   generalize (c+rd x (i:Int)+rd y (i:Int))%4294967296=r at *
   have hc:c=4294967296*q+r-rd x (i:Int)-rd y (i:Int):=by omega
   rw [hc] at he
   grind
theorem ref02_Add_c {a b:List Int} (ha:Wl a) (hb:Wl b) (hla:a.length≤400000000) (hlb:b.length≤400000000):Ev (fun k=>gr02_Add.f k a b) (dg (nv a+nv b)):=by
 obtain ⟨a1,a2,a3⟩:=hh_spec ha.1
 obtain ⟨b1,b2,b3⟩:=hh_spec hb.1
 refine Ev.bind (ref02_Halves_c ha hla) (Ev.bind (ref02_Halves_c hb hlb) ?_)
 have hm:wrap64 (mx ((hh a).length:Int) ((hh b).length:Int)+1)=((max (hh a).length (hh b).length+1:Nat):Int):=by
  unfold mx
  rw [w64_id (by split<;>omega) (by split<;>omega)]
  split<;>omega
 rw [hm,← a2,← b2]
 exact ref02_Add_l a1 b1 (n:=max (hh a).length (hh b).length+1) (by omega) (by omega) (by omega) (max (hh a).length (hh b).length+1) 0 [] 0 (by omega) rfl Hs_nil (by omega) (by omega) rfl
theorem ref02_Sub_l {x y:List Int} (hx:Hs x) (hy:Hs y) (hge:hv y≤hv x) (hn:x.length≤900000000) (d:Nat) : ∀ (i:Nat) (out:List Int) (c:Int),i+d=x.length→out.length=i→Hs out→0≤c→c≤1→hv out-Hp i*c=hv (x.take i)-hv (y.take i)→Ev (fun k=>gr02_Sub.l0 k x y out c (x.length:Int) i) (dg (hv x-hv y)):=by
 induction d with
 | zero =>
   intro i out c hi hlo hwo h0 h1 he
   refine Ev.step (fun k=>gr02_Sub.l0.eq_2 ..) ?_
   refine Ev.ifn (by omega) ?_
   have hi2:i=x.length:=by omega
   subst hi2
   rw [List.take_length] at he
   have hb2:=hv_split y x.length
   have hn1:=hv_nonneg hwo
   have hn2:=hv_lt hwo
   rw [hlo] at hn2
   have hn3:=hv_nonneg (Hs_take hy x.length)
   have hn4:=hv_nonneg (Hs_drop hy x.length)
   have hn5:=hv_lt hx
   have hp:=Hp_pos x.length
   have hz:Hp (min x.length y.length)*hv (y.drop x.length)=0:=by
    rcases Nat.lt_or_ge x.length y.length with hlt | hgt
    · rw [Nat.min_eq_left (by omega)] at hb2 ⊢
      rcases (show hv (y.drop x.length)=0∨1≤hv (y.drop x.length) by omega) with h | h
      · rw [h,Int.mul_zero]
      · have:=Int.mul_le_mul_of_nonneg_left h (Int.le_of_lt hp)
        omega
    · rw [List.drop_eq_nil_of_le hgt];simp [hv]
   have hu:c=0:=by
    rcases (show c=0∨c=1 by omega) with h | h
    · exact h
    · subst h;omega
   subst hu
   have e:hv x-hv y=hv out:=by omega
   rw [e]
   exact Ev.bind (ref02_Whole_c hwo (by omega)) (Ev.same rfl)
 | succ d ih =>
   intro i out c hi hlo hwo h0 h1 he
   have HE:=Hd.mk he
   clear he
   have x0:=Hs_rd hx (i:Int)
   have y0:=Hs_rd hy (i:Int)
   have e:wrap64 ((i:Int)+1)=((i+1:Nat):Int):=by rw [w64_id (by omega) (by omega)];omega
   refine Ev.step (fun k=>gr02_Sub.l0.eq_2 ..) ?_
   refine Ev.ifp (by omega) (Ev.ifp (by omega) (Ev.ifp (by omega) (Ev.bindc (ref02_at_c y i) (Ev.ifp (by omega) ?_))))
   have hw:IntKind.u64.wrap (IntKind.u64.wrap (IntKind.u64.wrap (4294967296+rd x (i:Int))-rd y (i:Int))-c)=4294967296+rd x (i:Int)-rd y (i:Int)-c:=by
    rw [wu,wu,wu];omega
   rw [e,hw,and32 _ (by omega) (by omega),wu_id (n:=1-(4294967296+rd x (i:Int)-rd y (i:Int)-c)/4294967296) (by omega) (by omega)]
   refine ih (i+1) _ _ (by omega) (by rw [List.length_append,hlo];rfl) (Hs_snoc hwo (by omega) (by omega)) (by omega) (by omega) ?_
   have he:=HE.out
   rw [hv_snoc,hlo,hv_take_next,hv_take_next,Hp_succ]
   have hs:4294967296+rd x (i:Int)-rd y (i:Int)-c=4294967296*((4294967296+rd x (i:Int)-rd y (i:Int)-c)/4294967296)+(4294967296+rd x (i:Int)-rd y (i:Int)-c)%4294967296:=by omega
   generalize (4294967296+rd x (i:Int)-rd y (i:Int)-c)/4294967296=q at *
   generalize (4294967296+rd x (i:Int)-rd y (i:Int)-c)%4294967296=r at *
   have hc:c=4294967296+rd x (i:Int)-rd y (i:Int)-4294967296*q-r:=by omega
   rw [hc] at he
   grind
theorem ref02_Sub_c {a b:List Int} (ha:Wl a) (hb:Wl b) (hla:a.length≤400000000) (hlb:b.length≤400000000) (hge:nv b≤nv a):Ev (fun k=>gr02_Sub.f k a b) (dg (nv a-nv b)):=by
 obtain ⟨a1,a2,a3⟩:=hh_spec ha.1
 obtain ⟨b1,b2,b3⟩:=hh_spec hb.1
 refine Ev.bind (ref02_Halves_c ha hla) (Ev.bind (ref02_Halves_c hb hlb) ?_)
 rw [← a2,← b2]
 exact ref02_Sub_l a1 b1 (by omega) (by omega) (hh a).length 0 [] 0 (by omega) rfl Hs_nil (by omega) (by omega) rfl
theorem rd_app_left {a b:List Int} {i:Nat} (h:i<a.length):rd (a++b) (i:Int)=rd a (i:Int):=by
 unfold rd
 rw [List.getD_eq_getElem?_getD,List.getD_eq_getElem?_getD,Int.toNat_natCast,List.getElem?_append_left h]
theorem rd_app_right {a b:List Int} {i:Nat} (h:a.length≤i):rd (a++b) (i:Int)=rd b ((i-a.length:Nat):Int):=by
 unfold rd
 rw [List.getD_eq_getElem?_getD,List.getD_eq_getElem?_getD,Int.toNat_natCast,Int.toNat_natCast,List.getElem?_append_right h]
theorem rd_mid (a:List Int) (x:Int) (b:List Int):rd (a++x::b) (a.length:Int)=x:=by
 rw [rd_app_right (Nat.le_refl _),Nat.sub_self];rfl
theorem rd_mid1 (a:List Int) (x y:Int) (b:List Int):rd (a++x::y::b) ((a.length+1:Nat):Int)=y:=by
 rw [rd_app_right (by omega),Nat.add_sub_cancel_left];rfl
theorem set_mid (a:List Int) (x y:Int) (b:List Int):(a++x::b).set a.length y=a++y::b:=by
 rw [List.set_append_right _ _ (Nat.le_refl _),Nat.sub_self];rfl
theorem rd_take {l:List Int} {i n:Nat} (h:i<n):rd (l.take n) (i:Int)=rd l (i:Int):=by
 unfold rd
 rw [List.getD_eq_getElem?_getD,List.getD_eq_getElem?_getD,Int.toNat_natCast,List.getElem?_take_of_lt h]
theorem ref02_Shl_l2 {o:List Int} (ho:Wl o) (hl:o.length≤999999999) {s:Nat} (hs:s≤63) (hs0:1≤s) (i:Nat) : ∀ T:List Int,i<o.length→T.length=o.length-(i+1)→Ws T→nv (o.take (i+1))*2^s+Wp (i+1)*(nv T-rd o (i:Int)/2^(64-s))=nv o*2^s →
 Ev (fun k=>gr02_Shl.l2 k (o.take (i+1)++T) (s:Int) (i:Int)) (dg (nv o*2^s)):=by
 have hp:=pow_pos s
 have e64:(64-(s:Int)).toNat=64-s:=by omega
 induction i with
 | zero =>
   intro T hi hT hwT he
   have hx:=U_rd ho.1 ((0:Nat):Int)
   obtain ⟨w1,w2,w3,w4,w5⟩:=shl_word hx hs (c:=0) (by omega) hp
   have e0:o.take (0+1)++T= []++rd o ((0:Nat):Int)::T:=by rw [take_rd hi];rfl
   refine Ev.step (fun k=>gr02_Shl.l2.eq_2 ..) ?_
   refine Ev.ifn (by omega) (Ev.ifp (by rw [e0];simp) ?_)
   rw [Int.toNat_natCast,e0]
   have er:rd ([]++rd o ((0:Nat):Int)::T) 0=rd o ((0:Nat):Int):=rd_mid [] _ T
   have es : ∀ v,([]++rd o ((0:Nat):Int)::T).set (0:Int).toNat v=v::T:=fun v=>rfl
   rw [er,es,wu]
   rw [take_rd hi,nv_snoc] at he
   simp only [List.take_zero,List.length_nil,Wp_zero,Wp_succ,nv,Int.zero_add,Int.one_mul,Int.mul_one] at he
   rw [Int.add_zero] at w5
   have hv:nv (rd o ((0:Nat):Int)*2^s%18446744073709551616::T)=nv o*2^s:=by
    rw [nv_cons];omega
   rw [← hv]
   exact Ev.bind (ref02_Trim_c ⟨Ws_cons.2 ⟨w5,hwT⟩,by simp;omega⟩) (Ev.same rfl)
 | succ i ih =>
   intro T hi hT hwT he
   have hx:=U_rd ho.1 ((i+1:Nat):Int)
   have hy:=U_rd ho.1 (i:Int)
   have q0:0≤rd o (i:Int)/2^(64-s):=Int.ediv_nonneg hy.1 (Int.le_of_lt (pow_pos _))
   have q1:rd o (i:Int)/2^(64-s)<2^s:=by
    rw [Int.ediv_lt_iff_lt_mul (pow_pos _),Int.mul_comm,w_split (by omega)];exact hy.2
   obtain ⟨w1,w2,w3,w4,w5⟩:=shl_word hx hs q0 q1
   have HE:=Hd.mk he
   have W2:=Hd.mk w2
   clear he w2 w3 w4
   have ll:(o.take (i+1)).length=i+1:=by rw [List.length_take];omega
   have e1:o.take (i+1+1)++T=o.take (i+1)++rd o ((i+1:Nat):Int)::T:=by rw [take_rd hi,List.append_assoc];rfl
   have e2:rd (o.take (i+1)++rd o ((i+1:Nat):Int)::T) ((i+1:Nat):Int)=rd o ((i+1:Nat):Int):=by
    have:=rd_mid (o.take (i+1)) (rd o ((i+1:Nat):Int)) T
    rwa [ll] at this
   have e3:rd (o.take (i+1)++rd o ((i+1:Nat):Int)::T) (i:Int)=rd o (i:Int):=by
    rw [rd_app_left (by omega),rd_take (by omega)]
   have e4 : ∀ v,(o.take (i+1)++rd o ((i+1:Nat):Int)::T).set ((i+1:Nat):Int).toNat v=o.take (i+1)++v::T:=by
    intro v
    have:=set_mid (o.take (i+1)) (rd o ((i+1:Nat):Int)) v T
    rwa [ll] at this
   have e5:wrap64 (((i+1:Nat):Int)-1)=(i:Int):=by rw [w64_id (by omega) (by omega)];omega
   have e6:(o.take (i+1)++rd o ((i+1:Nat):Int)::T).length=o.length:=by rw [List.length_append,List.length_cons,ll,hT];omega
   rw [e1]
   refine Ev.step (fun k=>gr02_Shl.l2.eq_2 ..) ?_
   refine Ev.ifp (by omega) (Ev.ifp (by omega) (Ev.ifp (by rw [e6];omega) ?_))
   rw [e5]
   refine Ev.ifp (by omega) (Ev.ifp (by rw [e6];omega) ?_)
   rw [e2,e3,e4,e64,Int.toNat_natCast,w1]
   refine ih _ (by omega) (by rw [List.length_cons,hT];omega) (Ws_cons.2 ⟨w5,hwT⟩) ?_
   rw [← HE.out,nv_cons,nv_take_succ hi,Wp_succ (i+1)]
   have w2:=W2.out
   generalize rd o ((i+1:Nat):Int)*2^s%18446744073709551616=r at *
   generalize rd o ((i+1:Nat):Int)/2^(64-s)=q at *
   generalize rd o (i:Int)/2^(64-s)=p at *
   rw [Int.add_mul,Int.mul_assoc,w2]
   grind
theorem ref02_Shl_l1 {a:List Int} (ha:Wl a) (hla:a.length≤900000000) {n m s:Nat} (hn:n=64*m+s) (hs:s≤63) (hm:m≤1024) (d:Nat) : ∀ i:Nat,i+d=a.length→Ev (fun k=>gr02_Shl.l1 k a (n:Int) (List.replicate m 0++a.take i) (a.length:Int) i) (dg (nv a*2^n)):=by
 induction d with
 | zero =>
   intro i hi
   have hw:Wl (List.replicate m 0++a):=⟨Ws_app.2 ⟨Ws_zeros _,ha.1⟩,by simp;omega⟩
   have hv:nv (List.replicate m 0++a)=Wp m*nv a:=by rw [nv_app,nv_zeros];simp
   refine Ev.step (fun k=>gr02_Shl.l1.eq_2 ..) ?_
   refine Ev.ifn (by omega) ?_
   rw [List.take_of_length_le (by omega)]
   by_cases h0:s=0
   · refine Ev.ifp (by omega) ?_
     have:nv a*2^n=nv (List.replicate m 0++a):=by rw [hv,hn,h0,Nat.add_zero,← Wp_two,Int.mul_comm]
     rw [this]
     exact Ev.bind (ref02_Trim_c hw) (Ev.same rfl)
   · have es:(n:Int)%64=(s:Int):=by omega
     rw [es]
     refine Ev.ifn (by omega) (Ev.ifp (by simp;omega) ?_)
     refine Ev.bindc rfl ?_
     have hlen:(List.replicate m 0++a++ [0]).length=m+a.length+1:=by simp;omega
     have ew:wrap64 (((List.replicate m 0++a++ [(0:Int)]).length:Int)-1)=((m+a.length:Nat):Int):=by rw [hlen,w64_id (by omega) (by omega)];omega
     rw [ew]
     have hwo:Wl (List.replicate m 0++a++ [0]):=⟨Wl_snoc hw.1 (by unfold U;omega),by rw [hlen];omega⟩
     have hvo:nv (List.replicate m 0++a++ [0])=Wp m*nv a:=by rw [nv_snoc,hv];omega
     have h:=ref02_Shl_l2 hwo (by rw [hlen];omega) hs (by omega) (m+a.length) [] (by rw [hlen];omega) (by rw [hlen];simp) Ws_nil (by
      have hr:rd (List.replicate m 0++a++ [(0:Int)]) ((m+a.length:Nat):Int)=0:=by
       have:=rd_mid (List.replicate m 0++a) (0:Int) []
       rwa [show (List.replicate m (0:Int)++a).length=m+a.length by simp] at this
      rw [hr,List.take_of_length_le (by rw [hlen];omega)]
      simp [nv])
     rw [List.append_nil,List.take_of_length_le (by rw [hlen];omega)] at h
     refine h.eqr ?_
     rw [hvo,hn,Int.pow_add,← Wp_two]
     congr 1
     grind
 | succ d ih =>
   intro i hi
   have e:wrap64 ((i:Int)+1)=((i+1:Nat):Int):=by rw [w64_id (by omega) (by omega)];omega
   refine Ev.step (fun k=>gr02_Shl.l1.eq_2 ..) ?_
   refine Ev.ifp (by omega) (Ev.ifp (by omega) (Ev.ifp (by omega) (Ev.ifp (by simp;omega) ?_)))
   rw [e,List.append_assoc,← take_rd (by omega)]
   exact ih (i+1) (by omega)
theorem ref02_Shl_l0 {a:List Int} (ha:Wl a) (hla:a.length≤900000000) {n m s:Nat} (hn:n=64*m+s) (hs:s≤63) (hm:m≤1024) (d:Nat) : ∀ i:Nat,i+d=m→Ev (fun k=>gr02_Shl.l0 k a (n:Int) (List.replicate i 0) (m:Int) i) (dg (nv a*2^n)):=by
 induction d with
 | zero =>
   intro i hi
   obtain rfl:i=m:=by omega
   refine Ev.step (fun k=>gr02_Shl.l0.eq_2 ..) ?_
   refine Ev.ifn (by omega) ?_
   have h:=ref02_Shl_l1 ha hla hn hs hm a.length 0 (by omega)
   rwa [List.take_zero,List.append_nil] at h
 | succ d ih =>
   intro i hi
   have e:wrap64 ((i:Int)+1)=((i+1:Nat):Int):=by rw [w64_id (by omega) (by omega)];omega
   refine Ev.step (fun k=>gr02_Shl.l0.eq_2 ..) ?_
   refine Ev.ifp (by omega) (Ev.ifp (by simp;omega) ?_)
   rw [e,← List.replicate_succ']
   exact ih (i+1) (by omega)
theorem ref02_Shl_c {a:List Int} (ha:Wl a) (hla:a.length≤900000000) (n:Int):Ev (fun k=>gr02_Shl.f k a n) (dg (nv a*2^shn n)):=by
 have hs:=shn_le n
 obtain ⟨b,m,hb,hm,hbm⟩ : ∃ b m:Nat,b≤63∧m≤1024∧shn n=64*m+b:=⟨shn n%64,shn n/64,by omega,by omega,by omega⟩
 unfold gr02_Shl.f
 rw [shn_eq,show (shn n:Int)/64=(m:Int) by omega]
 exact ref02_Shl_l0 ha hla hbm hb hm m 0 (by omega)

theorem ref02_Shr_l1 {o:List Int} (ho:Wl o) {s:Nat} (hs:s≤63) (d:Nat) : ∀ (i:Nat) (R:List Int),i+d=o.length→R.length=i→Ws R→nv R+Wp i*(nv (o.drop i)/2^s)=nv o/2^s →
 Ev (fun k=>gr02_Shr.l1 k (R++o.drop i) (s:Int) (o.length:Int) i) (dg (nv o/2^s)):=by
 have hol:=ho.2
 have e64:(64-(s:Int)).toNat=64-s:=by omega
 induction d with
 | zero =>
   intro i R hi hR hwR he
   refine Ev.step (fun k=>gr02_Shr.l1.eq_2 ..) ?_
   refine Ev.ifn (by omega) ?_
   rw [List.drop_eq_nil_of_le (by omega)] at he ⊢
   simp [nv] at he
   rw [← he,List.append_nil]
   exact Ev.bind (ref02_Trim_c ⟨hwR,by omega⟩) (Ev.same rfl)
 | succ d ih =>
   intro i R hi hR hwR he
   have hx:=U_rd ho.1 (i:Int)
   have hz:=U_rd ho.1 ((i+1:Nat):Int)
   rw [drop_rd (show i<o.length by omega)] at he ⊢
   rw [nv_cons] at he
   have HE:=Hd.mk he
   clear he
   have e:wrap64 ((i:Int)+1)=((i+1:Nat):Int):=by rw [w64_id (by omega) (by omega)];omega
   have r1:rd (R++rd o (i:Int)::o.drop (i+1)) (i:Int)=rd o (i:Int):=by rw [← hR];exact rd_mid ..
   have s1 : ∀ v:Int,(R++rd o (i:Int)::o.drop (i+1)).set (i:Int).toNat v=R++v::o.drop (i+1):=fun v=>by
    rw [Int.toNat_natCast,← hR];exact set_mid ..
   have r2 : ∀ v:Int,rd (R++v::o.drop (i+1)) (i:Int)=v:=fun v=>by rw [← hR];exact rd_mid ..
   have s2 : ∀ v u:Int,(R++v::o.drop (i+1)).set (i:Int).toNat u=R++u::o.drop (i+1):=fun v u=>by
    rw [Int.toNat_natCast,← hR];exact set_mid ..
   have l1 : ∀ v:Int,(R++v::o.drop (i+1)).length=o.length:=fun v=>by simp [hR];omega
   refine Ev.step (fun k=>gr02_Shr.l1.eq_2 ..) ?_
   refine Ev.ifp (by omega) (Ev.ifp (by omega) (Ev.ifp (by rw [l1];omega) ?_))
   rw [r1,s1,e,Int.toNat_natCast,e64]
   refine Ev.bindc rfl ?_
   have next : ∀ w:Int,U w→(rd o (i:Int)+18446744073709551616*nv (o.drop (i+1)))/2^s=w+18446744073709551616*(nv (o.drop (i+1))/2^s)→Ev (fun k=>gr02_Shr.l1 k (R++w::o.drop (i+1)) (s:Int) (o.length:Int) ((i+1:Nat):Int)) (dg (nv o/2^s)):=by
    intro w hw hq
    have h:=ih (i+1) (R++ [w]) (by omega) (by rw [List.length_append,hR];rfl) (Wl_snoc hwR hw) (by
     have he:=HE.out
     rw [hq] at he
     rw [nv_snoc,hR,Wp_succ,← he]
     grind)
    rwa [List.append_assoc] at h
   by_cases hn:((i+1:Nat):Int)<(o.length:Int)
   · obtain ⟨w1,w2,w3⟩:=shr_word (T:=nv (o.drop (i+1))) hx hz hs ⟨nv (o.drop (i+1+1)),by rw [drop_rd (show i+1<o.length by omega),nv_cons]⟩
     have r3 : ∀ v:Int,rd (R++v::o.drop (i+1)) ((i+1:Nat):Int)=rd o ((i+1:Nat):Int):=fun v=>by
      rw [drop_rd (show i+1<o.length by omega),← hR];exact rd_mid1 ..
     refine Ev.ifp (by rw [l1];exact hn) (Ev.ifp (by omega) ?_)
     rw [r2,r3,s2]
     have hw:IntKind.u64.wrap (IntKind.u64.wrap (rd o ((i+1:Nat):Int)*2)*2^(63-s))=IntKind.u64.wrap (rd o ((i+1:Nat):Int)*2^(64-s)):=by
      rw [wu,wu,wu,mul_mod_left,Int.mul_assoc,show (2:Int)*2^(63-s)=2^(64-s) by rw [show 64-s=(63-s)+1 by omega,Int.pow_succ,Int.mul_comm]]
     rw [hw] at w1
     rw [w1]
     exact next _ w2 w3
   · obtain ⟨w1,w2,w3⟩:=shr_word0 (T:=nv (o.drop (i+1))) hx hs (by rw [List.drop_eq_nil_of_le (by omega)];rfl)
     refine Ev.ifn (by rw [l1];exact hn) ?_
     exact next _ w2 w3
theorem ref02_Shr_l0 {a:List Int} (ha:Wl a) {n m s:Nat} (hn:n=64*m+s) (hs:s≤63) (d:Nat) : ∀ i:Nat,i+d=a.length→m≤i→Ev (fun k=>gr02_Shr.l0 k a (n:Int) ((a.drop m).take (i-m)) i) (dg (nv a/2^n)):=by
 have hal:=ha.2
 have hdiv:nv a/2^n=nv (a.drop m)/2^s:=by
  have hp:=Wp_pos m
  rw [hn,Int.pow_add,← Wp_two,← Int.ediv_ediv_of_nonneg (by omega),nv_div_Wp ha.1]
 induction d with
 | zero =>
   intro i hi hmi
   have hw:Wl (a.drop m):=⟨Ws_drop ha.1 m,by simp;omega⟩
   refine Ev.step (fun k=>gr02_Shr.l0.eq_2 ..) ?_
   refine Ev.ifn (by omega) ?_
   rw [List.take_of_length_le (by simp;omega),show (n:Int)%64=(s:Int) by omega,hdiv]
   by_cases h0:s=0
   · refine Ev.ifp (by omega) ?_
     rw [h0,Int.pow_zero,Int.ediv_one]
     exact Ev.bind (ref02_Trim_c hw) (Ev.same rfl)
   · refine Ev.ifn (by omega) ?_
     exact ref02_Shr_l1 hw hs (a.drop m).length 0 [] (by omega) rfl Ws_nil (by simp [nv,Wp_zero])
 | succ d ih =>
   intro i hi hmi
   have e:wrap64 ((i:Int)+1)=((i+1:Nat):Int):=by rw [w64_id (by omega) (by omega)];omega
   have e2:(a.drop m).take (i-m)++ [rd a (i:Int)]=(a.drop m).take (i+1-m):=by
    have h1:=take_rd (l:=a.drop m) (i:=i-m) (by simp;omega)
    have h2:rd (a.drop m) ((i-m:Nat):Int)=rd a (i:Int):=by
     unfold rd
     rw [List.getD_eq_getElem?_getD,List.getD_eq_getElem?_getD,Int.toNat_natCast,Int.toNat_natCast,List.getElem?_drop,show m+(i-m)=i by omega]
    rw [h2] at h1
    rw [sub_succ_of hmi,h1]
   refine Ev.step (fun k=>gr02_Shr.l0.eq_2 ..) ?_
   refine Ev.ifp (by omega) (Ev.ifp (by omega) (Ev.ifp (by simp;omega) ?_))
   rw [e,e2]
   exact ih (i+1) (by omega) (by omega)
theorem ref02_Shr_c {a:List Int} (ha:Wl a) {n:Int} (hn:n≤9223372036854775807):Ev (fun k=>gr02_Shr.f k a n) (dg (nv a/2^n.toNat)):=by
 have hal:=ha.2
 have hmx:mx n 0=(n.toNat:Int):=by unfold mx;split<;>omega
 obtain ⟨b,m,hb,hbm⟩ : ∃ b m:Nat,b≤63∧n.toNat=64*m+b:=⟨n.toNat%64,n.toNat/64,by omega,by omega⟩
 have e1:wrap64 ((n.toNat:Int)/64)=(m:Int):=by rw [w64_id (by omega) (by omega)];omega
 unfold gr02_Shr.f
 rw [hmx,e1]
 rcases Nat.lt_or_ge m a.length with h | h
 · have:=ref02_Shr_l0 ha hbm hb (a.length-m) m (by omega) (Nat.le_refl _)
   rwa [Nat.sub_self,List.take_zero] at this
 · have hz:nv a/2^n.toNat=0:=by
    have h1:=nv_lt ha.1
    have h2:=Wp_le h
    rw [hbm,Int.pow_add,← Wp_two]
    have h3:=pow_pos b
    have h4:=Int.mul_le_mul_of_nonneg_left (show 1≤(2:Int)^b by omega) (Int.le_of_lt (Wp_pos m))
    exact Int.ediv_eq_zero_of_lt (nv_nonneg ha.1) (by omega)
   rw [hz]
   refine Ev.step (fun k=>gr02_Shr.l0.eq_2 ..) ?_
   refine Ev.ifn (by omega) ?_
   by_cases h0:(n.toNat:Int)%64=0
   · exact Ev.ifp h0 (Ev.bind (ref02_Trim_c ⟨Ws_nil,by simp⟩) (Ev.same rfl))
   · refine Ev.ifn h0 (Ev.step (fun k=>gr02_Shr.l1.eq_2 ..) (Ev.ifn (by simp) ?_))
     exact Ev.bind (ref02_Trim_c ⟨Ws_nil,by simp⟩) (Ev.same rfl)
theorem nv_set : ∀ (l:List Int) (p:Nat) (v:Int),p<l.length→nv (l.set p v)=nv l+Wp p*(v-rd l (p:Int))
 | [],p,v,h=>by simp at h
 | x::t,0,v,h=>by
   show v+18446744073709551616*nv t=x+18446744073709551616*nv t+1*(v-x)
   omega
 | x::t,p+1,v,h=>by
   have ih:=nv_set t p v (by simpa using h)
   have e:rd (x::t) ((p+1:Nat):Int)=rd t (p:Int):=by unfold rd;simp
   rw [List.set_cons_succ,nv_cons,nv_cons,ih,e,Wp_succ,Int.mul_add,Int.mul_assoc,Int.add_assoc]
theorem Ws_set {l:List Int} (h:Ws l) (p:Nat) {v:Int} (hv:U v):Ws (l.set p v):=fun x hx=>by
 rcases List.mem_or_eq_of_mem_set hx with h1 | h1
 · exact h x h1
 · rw [h1];exact hv
theorem rd_set_ne {l:List Int} {p q:Nat} {v:Int} (h:p≠q):rd (l.set p v) (q:Int)=rd l (q:Int):=by
 unfold rd
 rw [List.getD_eq_getElem?_getD,List.getD_eq_getElem?_getD,Int.toNat_natCast,List.getElem?_set_ne h]
theorem rd_zeros (n:Nat) (i:Nat):rd (List.replicate n 0) (i:Int)=0:=by
 unfold rd
 rw [List.getD_eq_getElem?_getD,Int.toNat_natCast,List.getElem?_replicate];split<;>rfl
theorem row_step {B x y s c hi lo v ov:Int} (hB:0<B) (hx0:0≤x) (hx:x<B) (hy0:0≤y) (hy:y<B) (hs0:0≤s) (hs:s<B) (hc0:0≤c) (hc:c<B)
 (e1:x*y=B*hi+lo) (e2:s+lo+c=B*ov+v) (hl0:0≤lo) (hv0:0≤v):hi+ov<B:=by
 have h1:x*y≤(B-1)*(B-1):=Int.mul_le_mul (by omega) (by omega) hy0 (by omega)
 have h2:(B-1)*(B-1)=B*B-2*B+1:=by grind
 have h3:B*(hi+ov)<B*B:=by
  have:B*(hi+ov)=B*hi+B*ov:=Int.mul_add ..
  omega
 exact Int.lt_of_mul_lt_mul_left h3 (Int.le_of_lt hB)
theorem prod_rows_l1 {a b:List Int} (ha:Wl a) (hb:Wl b) (hab:a.length+b.length≤1000000000) {i:Nat} (hi:i<a.length) {N:Int}
 (next : ∀ z:List Int,z.length=a.length+b.length→Ws z→nv z=nv (a.take (i+1))*nv b→(∀ p:Nat,i+1+b.length≤p→rd z (p:Int)=0)→Ev (fun k=>prod_rows.l0 k b z a (a.length:Int) ((i+1:Nat):Int)) (dg N))
 (d:Nat) : ∀ (j:Nat) (z:List Int) (c:Int),j+d=b.length→z.length=a.length+b.length→Ws z→U c→nv z+Wp (i+j)*c=nv (a.take i)*nv b+Wp i*(rd a (i:Int)*nv (b.take j))→(∀ p:Nat,i+b.length≤p→rd z (p:Int)=0) →
 Ev (fun k=>prod_rows.l1 k b z (i:Int) (rd a (i:Int)) c a (a.length:Int) (i:Int) b (b.length:Int) j) (dg N):=by
 have hx:=U_rd ha.1 (i:Int)
 induction d with
 | zero =>
   intro j z c hj hz hwz hc he h0
   have HE:=Hd.mk he
   clear he
   have e:wrap64 ((i:Int)+(b.length:Int))=((i+b.length:Nat):Int):=by rw [w64_id (by omega) (by omega)];omega
   have e2:wrap64 ((i:Int)+1)=((i+1:Nat):Int):=by rw [w64_id (by omega) (by omega)];omega
   refine Ev.step (fun k=>prod_rows.l1.eq_2 ..) ?_
   rw [e,e2]
   refine Ev.ifn (by omega) (Ev.ifp (by omega) (Ev.ifp (by omega) ?_))
   rw [Int.toNat_natCast]
   refine next _ (by simp;omega) (Ws_set hwz _ hc) ?_ ?_
   · rw [nv_set _ _ _ (by omega),h0 _ (Nat.le_refl _),nv_take_succ hi]
     have ej:j=b.length:=by omega
     have he:=HE.out
     rw [ej,List.take_of_length_le (Nat.le_refl _)] at he
     rw [Int.sub_zero,he,Int.add_mul,Int.mul_assoc]
   · intro p hp
     rw [rd_set_ne (by omega),h0 p (by omega)]
 | succ d ih =>
   intro j z c hj hz hwz hc he h0
   have HE:=Hd.mk he
   clear he
   have hy:=U_rd hb.1 (j:Int)
   have hs:=U_rd hwz ((i+j:Nat):Int)
   have e:wrap64 ((i:Int)+(j:Int))=((i+j:Nat):Int):=by rw [w64_id (by omega) (by omega)];omega
   have e2:wrap64 ((j:Int)+1)=((j+1:Nat):Int):=by rw [w64_id (by omega) (by omega)];omega
   refine Ev.step (fun k=>prod_rows.l1.eq_2 ..) ?_
   rw [e,e2]
   refine Ev.ifp (by omega) (Ev.ifp (by omega) (Ev.ifp (by omega) (Ev.bindc (limb_Mul_c hx hy) (Ev.ifp (by omega) (Ev.ifp (by omega) ?_)))))
   generalize hP:rd a (i:Int)*rd b (j:Int)=P
   have hlo':U (P%18446744073709551616):=by unfold U;omega
   refine Ev.bindc (limb_Add_c hs hlo' hc) ?_
   dsimp only
   rw [Int.toNat_natCast]
   generalize hS:rd z ((i+j:Nat):Int)=S at *
   unfold U at hx hc hs hy
   have hP0:0≤P:=by rw [← hP];exact Int.mul_nonneg hx.1 hy.1
   have hbd:=row_step (B:=18446744073709551616) (x:=rd a (i:Int)) (y:=rd b (j:Int)) (s:=S) (c:=c) (hi:=P/18446744073709551616) (lo:=P%18446744073709551616) (v:=(S+P%18446744073709551616+c)%18446744073709551616) (ov:=(S+P%18446744073709551616+c)/18446744073709551616) (by omega) hx.1 hx.2 hy.1 hy.2 hs.1 hs.2 hc.1 hc.2 (by omega) (by omega) (by omega) (by omega)
   rw [wu_id (by omega) (by omega)]
   refine ih (j+1) _ _ (by omega) (by simp;omega) (Ws_set hwz _ (by unfold U;omega)) (by unfold U;omega) ?_ ?_
   · have he:=HE.out
     have hq:S+P+c=18446744073709551616*(P/18446744073709551616+(S+P%18446744073709551616+c)/18446744073709551616)+(S+P%18446744073709551616+c)%18446744073709551616:=by omega
     rw [nv_set _ _ _ (by omega),hS,nv_take_succ (by omega),← Nat.add_assoc,Wp_succ]
     generalize P/18446744073709551616+(S+P%18446744073709551616+c)/18446744073709551616=q at *
     generalize (S+P%18446744073709551616+c)%18446744073709551616=r at *
     have hc':c=18446744073709551616*q+r-P-S:=by omega
     rw [hc',← hP] at he
     have hWa:=Wp_add i j
     grind
   · intro p hp
     rw [rd_set_ne (by omega),h0 p hp]
theorem prod_rows_l0 {a b:List Int} (ha:Wl a) (hb:Wl b) (hab:a.length+b.length≤1000000000) (d:Nat) : ∀ (i:Nat) (z:List Int),i+d=a.length→z.length=a.length+b.length→Ws z→nv z=nv (a.take i)*nv b→(∀ p:Nat,i+b.length≤p→rd z (p:Int)=0) →
 Ev (fun k=>prod_rows.l0 k b z a (a.length:Int) i) (dg (nv a*nv b)):=by
 induction d with
 | zero =>
   intro i z hi hz hwz he h0
   refine Ev.step (fun k=>prod_rows.l0.eq_2 ..) ?_
   refine Ev.ifn (by omega) ?_
   rw [List.take_of_length_le (by omega)] at he
   rw [← he]
   exact Ev.bind (nat_Trim_c ⟨hwz,by omega⟩) (Ev.same rfl)
 | succ d ih =>
   intro i z hi hz hwz he h0
   refine Ev.step (fun k=>prod_rows.l0.eq_2 ..) ?_
   refine Ev.ifp (by omega) (Ev.ifp (by omega) (Ev.ifp (by omega) ?_))
   exact prod_rows_l1 ha hb hab (by omega) (fun z h1 h2 h3 h4=>ih (i+1) z (by omega) h1 h2 h3 h4) b.length 0 z 0 (by omega) hz hwz (by unfold U;omega) (by simp [nv];omega) h0
theorem prod_rows_c {a b:List Int} (ha:Wl a) (hb:Wl b) (hab:a.length+b.length≤1000000000):Ev (fun k=>prod_rows.f k a b) (dg (nv a*nv b)):=by
 have e:wrap64 ((a.length:Int)+(b.length:Int))=((a.length+b.length:Nat):Int):=by rw [w64_id (by omega) (by omega)];omega
 unfold prod_rows.f
 rw [e,Int.toNat_natCast]
 refine Ev.ifp (by omega) (Ev.ifp (by omega) ?_)
 exact prod_rows_l0 ha hb hab a.length 0 _ (by omega) (by simp) (Ws_zeros _) (by rw [nv_zeros,List.take_zero];simp [nv]) (fun p _=>rd_zeros _ p)

theorem prod_part_low {a:List Int} (ha:Wl a) (m:Nat):Ev (fun k=>prod_part.f k a 0 (m:Int)) (dg (nv (a.take m))):=by
 have hal:=ha.2
 have e0:mn (0:Int) (a.length:Int)=0:=by unfold mn;split<;>omega
 have e1:mn (m:Int) (a.length:Int)=((min m a.length:Nat):Int):=by unfold mn;split<;>omega
 unfold prod_part.f
 rw [e0,e1]
 refine Ev.ifp (by omega) (Ev.ifp (by omega) (Ev.ifp (by omega) ?_))
 have e2:(a.take ((min m a.length:Nat):Int).toNat).drop (0:Int).toNat=a.take m:=by
  rw [Int.toNat_natCast];show List.drop 0 _=_;rw [List.drop_zero,List.take_eq_take_iff];omega
 rw [e2]
 exact Ev.bind (nat_Trim_c ⟨Ws_take ha.1 m,by rw [List.length_take];omega⟩) (Ev.same rfl)
theorem prod_part_high {a:List Int} (ha:Wl a) (m:Nat):Ev (fun k=>prod_part.f k a (m:Int) (a.length:Int)) (dg (nv (a.drop m))):=by
 have hal:=ha.2
 have e0:mn (a.length:Int) (a.length:Int)=a.length:=by unfold mn;split<;>omega
 have e1:mn (m:Int) (a.length:Int)=((min m a.length:Nat):Int):=by unfold mn;split<;>omega
 unfold prod_part.f
 rw [e0,e1]
 refine Ev.ifp (by omega) (Ev.ifp (by omega) (Ev.ifp (by omega) ?_))
 have e2:(a.take (a.length:Int).toNat).drop ((min m a.length:Nat):Int).toNat=a.drop m:=by
  rw [Int.toNat_natCast,Int.toNat_natCast,List.take_length]
  rcases Nat.le_total m a.length with h | h
  · rw [Nat.min_eq_left h]
  · rw [Nat.min_eq_right h,List.drop_eq_nil_of_le (Nat.le_refl _),List.drop_eq_nil_of_le h]
 rw [e2]
 exact Ev.bind (nat_Trim_c ⟨Ws_drop ha.1 m,by rw [List.length_drop];omega⟩) (Ev.same rfl)
theorem prod_above_c {a:List Int} (ha:Wl a) {m:Nat} (hm:a.length+m≤1000000000):Ev (fun k=>prod_above.f k a (m:Int)) (dg (nv a*Wp m)):=by
 unfold prod_above.f
 rw [Int.toNat_natCast]
 refine Ev.ifp (by omega) (Ev.ifp (by omega) (Ev.bindc rfl (Ev.ifp (by simp;omega) ?_)))
 have hv:nv a*Wp m=nv (List.replicate m 0++a):=by rw [nv_app,nv_zeros,List.length_replicate,Int.zero_add,Int.mul_comm]
 rw [hv]
 exact Ev.bind (nat_Trim_c ⟨Ws_app.2 ⟨Ws_zeros _,ha.1⟩,by simp;omega⟩) (Ev.same rfl)
theorem dg_len_nv {l:List Int} (h:Ws l):(dg (nv l)).length≤l.length:=dg_len_le (nv_lt h)
theorem halves_go {m:Nat} (hm:m≤100000000) {a0 a1 b0 b1:Int} (na0:0≤a0) (na1:0≤a1) (nb0:0≤b0) (nb1:0≤b1) (ba0:bl a0≤64*m) (ba1:bl a1≤64*m) (bb0:bl b0≤64*m) (bb1:bl b1≤64*m)
 {M:Nat→List Int→List Int→Option (List Int)} (ih : ∀ x y:Int,0≤x→0≤y→bl x≤64*(m+1)→bl y≤64*(m+1)→Ev (fun k=>M k (dg x) (dg y)) (dg (x*y))) :
 Ev (fun k=>(M k (dg a0) (dg b0)).bind fun t543=>((M k (dg a1) (dg b1)).bind fun t546=>((nat_Add.f k (dg a0) (dg a1)).bind fun t549=>((nat_Add.f k (dg b0) (dg b1)).bind fun t552=>((M k t549 t552).bind fun t555=>((nat_Add.f k t543 t546).bind fun t558=>((nat_Sub.f k t555 t558).bind fun bt561=>((prod_above.f k bt561.1 (m:Int)).bind fun t565=>((prod_above.f k t546 ((2*m:Nat):Int)).bind fun t568=>((nat_Add.f k t565 t568).bind fun t571=>((nat_Add.f k t543 t571).bind fun t574=>(some t574))))))))))))
  (dg ((a0+Wp m*a1)*(b0+Wp m*b1))):=by
 have q : ∀ x:Int,0≤x→bl x≤30000000000→Wl (dg x)∧nv (dg x)=x∧(dg x).length≤900000000∧((dg x).length:Int)≤(bl x+63)/64:=fun x h h2=>⟨Wl_dg (by omega),nv_dg h,by have:=dg_len_bl x;omega,dg_len_bl x⟩
 have add : ∀ x y:Int,0≤x→0≤y→bl x≤30000000000→bl y≤30000000000→Ev (fun k=>nat_Add.f k (dg x) (dg y)) (dg (x+y)):=fun x y h1 h2 h3 h4=>by
  obtain ⟨q1,q2,q3,_⟩:=q x h1 h3
  obtain ⟨r1,r2,r3,_⟩:=q y h2 h4
  have:=nat_Add_c q1 r1 (by omega) (by omega)
  rwa [q2,r2] at this
 have above : ∀ (x:Int) (n:Nat),0≤x→bl x≤30000000000→n≤200000000→Ev (fun k=>prod_above.f k (dg x) (n:Int)) (dg (x*Wp n)):=fun x n h1 h2 h3=>by
  obtain ⟨q1,q2,_,q4⟩:=q x h1 h2
  have:=prod_above_c q1 (m:=n) (by omega)
  rwa [q2] at this
 have bs:=bl_add na0 na1 (m:=64*m) ba0 ba1
 have bt:=bl_add nb0 nb1 (m:=64*m) bb0 bb1
 have n0:0≤a0*b0:=Int.mul_nonneg na0 nb0
 have n1:0≤a1*b1:=Int.mul_nonneg na1 nb1
 have nx1:0≤a0*b1:=Int.mul_nonneg na0 nb1
 have nx2:0≤a1*b0:=Int.mul_nonneg na1 nb0
 have b00:=bl_mul na0 nb0
 have b11:=bl_mul na1 nb1
 have bst:=bl_mul (x:=a0+a1) (y:=b0+b1) (by omega) (by omega)
 have eq:(a0+a1)*(b0+b1)=a0*b0+a1*b1+(a0*b1+a1*b0):=by grind
 have e2m:Wp (2*m)=Wp m*Wp m:=by rw [← Wp_add];congr 1;omega
 have goal:(a0+Wp m*a1)*(b0+Wp m*b1)=a0*b0+((a0*b1+a1*b0)*Wp m+a1*b1*Wp (2*m)):=by rw [e2m];grind
 have hW:=Wp_pos m
 have hW2:=Wp_pos (2*m)
 have bW:bl (Wp m)≤64*m+1:=by
  have:=bl_le_of (x:=Wp m) (n:=64*m+1) (by rw [Wp_two,Int.pow_succ];have:=pow_pos (64*m);omega)
  omega
 have bW2:bl (Wp (2*m))≤128*m+1:=by
  have:=bl_le_of (x:=Wp (2*m)) (n:=64*(2*m)+1) (by rw [Wp_two,Int.pow_succ];have:=pow_pos (64*(2*m));omega)
  omega
 rw [goal]
 clear goal e2m
 have M0:=ih a0 b0 na0 nb0 (by omega) (by omega)
 have M1:=ih a1 b1 na1 nb1 (by omega) (by omega)
 have M2:=ih (a0+a1) (b0+b1) (by omega) (by omega) (by omega) (by omega)
 rw [eq] at M2 bst
 clear eq ih
 have A1:=add a0 a1 na0 na1 (by omega) (by omega)
 have A2:=add b0 b1 nb0 nb1 (by omega) (by omega)
 generalize a0*b0=x0 at *
 generalize a1*b1=x1 at *
 generalize hmid:a0*b1+a1*b0=x2 at *
 have n2:0≤x2:=by omega
 have bs2:=bl_add n0 n1 (m:=128*m) (by omega) (by omega)
 have A3:=add x0 x1 n0 n1 (by omega) (by omega)
 have S1:Ev (fun k=>nat_Sub.f k (dg (x0+x1+x2)) (dg (x0+x1))) (dg x2,true):=by
  obtain ⟨q1,q2,_,_⟩:=q (x0+x1+x2) (by omega) (by omega)
  obtain ⟨r1,r2,_,_⟩:=q (x0+x1) (by omega) (by omega)
  have:=nat_Sub_c q1 r1 (by omega)
  rwa [q2,r2,show x0+x1+x2-(x0+x1)=x2 by omega] at this
 have bmid:=bl_mono (x:=x2) (y:=x0+x1+x2) (by omega)
 have U1:=above x2 m n2 (by omega) (by omega)
 have U2:=above x1 (2*m) n1 (by omega) (by omega)
 have bu1:=bl_mul n2 (Int.le_of_lt hW)
 have bu2:=bl_mul n1 (Int.le_of_lt hW2)
 have nu1:0≤x2*Wp m:=Int.mul_nonneg n2 (Int.le_of_lt hW)
 have nu2:0≤x1*Wp (2*m):=Int.mul_nonneg n1 (Int.le_of_lt hW2)
 have A4:=add _ _ nu1 nu2 (by omega) (by omega)
 have bsum:=bl_add nu1 nu2 (m:=256*m+100) (by omega) (by omega)
 have A5:=add x0 _ n0 (Int.add_nonneg nu1 nu2) (by omega) (by omega)
 exact Ev.bind M0 (Ev.bind M1 (Ev.bind A1 (Ev.bind A2 (Ev.bind M2 (Ev.bind A3 (Ev.bind S1 (Ev.bind U1 (Ev.bind U2 (Ev.bind A4 (Ev.bind A5 (Ev.same rfl)))))))))))
theorem nv_split' (a:List Int) (m:Nat):nv a=nv (a.take m)+Wp m*nv (a.drop m):=by
 have sa:=nv_split a m
 rcases Nat.le_total m a.length with h | h
 · rw [Nat.min_eq_left h] at sa;exact sa
 · rw [List.take_of_length_le h,List.drop_eq_nil_of_le h];simp [nv]
theorem prod_Mul_n (n:Nat) : ∀ a b:List Int,Wl a→Wl b→a.length≤n→b.length≤n→n≤100000000→Ev (fun k=>prod_Mul.f k a b) (dg (nv a*nv b)):=by
 induction n using Nat.strongRecOn with
 | ind n ih =>
   intro a b ha hb hla hlb hn
   refine Ev.step (fun k=>prod_Mul.f.eq_2 ..) ?_
   by_cases h1:(a.length:Int)<8
   · exact Ev.ifp h1 (Ev.bind (prod_rows_c ha hb (by omega)) (Ev.same rfl))
   refine Ev.ifn h1 ?_
   by_cases h2:(b.length:Int)<8
   · exact Ev.ifp h2 (Ev.bind (prod_rows_c ha hb (by omega)) (Ev.same rfl))
   refine Ev.ifn h2 (Ev.bind ?_ (Ev.same rfl))
   obtain ⟨m,hm⟩ : ∃ m,m=(max a.length b.length+1)/2:=⟨_,rfl⟩
   have hmn:m+1<n:=by omega
   have hma:a.length≤2*m:=by omega
   have hmb:b.length≤2*m:=by omega
   have em:wrap64 (Int.tdiv (wrap64 ((mx (a.length:Int) (b.length:Int))+1)) 2)=(m:Int):=by
    have:mx (a.length:Int) (b.length:Int)=((max a.length b.length:Nat):Int):=by unfold mx;split<;>omega
    rw [this,w64_id (n:=((max a.length b.length:Nat):Int)+1) (by omega) (by omega),Int.tdiv_eq_ediv_of_nonneg (by omega),w64_id (by omega) (by omega)]
    omega
   clear hm
   have em2:wrap64 (2*(m:Int))=((2*m:Nat):Int):=by rw [w64_id (by omega) (by omega)];omega
   unfold prod_halves.f
   rw [em,em2]
   clear em em2
   have bd : ∀ l:List Int,Ws l→l.length≤m→bl (nv l)≤64*m:=fun l h h2=>by have:=bl_nv h;omega
   have go:=halves_go (m:=m) (by omega) (nv_nonneg (Ws_take ha.1 m)) (nv_nonneg (Ws_drop ha.1 m)) (nv_nonneg (Ws_take hb.1 m)) (nv_nonneg (Ws_drop hb.1 m))
    (bd _ (Ws_take ha.1 m) (by rw [List.length_take];omega)) (bd _ (Ws_drop ha.1 m) (by rw [List.length_drop];omega)) (bd _ (Ws_take hb.1 m) (by rw [List.length_take];omega)) (bd _ (Ws_drop hb.1 m) (by rw [List.length_drop];omega))
    (M:=fun k=>prod_Mul.f k) (fun x y hx hy bx bY=>by
      have kx:=dg_len_bl x
      have ky:=dg_len_bl y
      have:=ih (m+1) hmn (dg x) (dg y) (Wl_dg (by omega)) (Wl_dg (by omega)) (by omega) (by omega) (by omega)
      rwa [nv_dg hx,nv_dg hy] at this)
   rw [← nv_split',← nv_split'] at go
   exact Ev.bind (prod_part_low ha m) (Ev.bind (prod_part_high ha m) (Ev.bind (prod_part_low hb m) (Ev.bind (prod_part_high hb m) go)))
theorem prod_Mul_c {a b:List Int} (ha:Wl a) (hb:Wl b) (hla:a.length≤100000000) (hlb:b.length≤100000000):Ev (fun k=>prod_Mul.f k a b) (dg (nv a*nv b)):=prod_Mul_n 100000000 a b ha hb hla hlb (by omega)
theorem prod_Mul_dg {x y:Int} (hx:0≤x) (hy:0≤y) (bx:bl x≤6000000000) (bY:bl y≤6000000000):Ev (fun k=>prod_Mul.f k (dg x) (dg y)) (dg (x*y)):=by
 have kx:=dg_len_bl x
 have ky:=dg_len_bl y
 have:=prod_Mul_c (Wl_dg (n:=x) (by omega)) (Wl_dg (n:=y) (by omega)) (by omega) (by omega)
 rwa [nv_dg hx,nv_dg hy] at this
theorem hv_set : ∀ (l:List Int) (p:Nat) (v:Int),p<l.length→hv (l.set p v)=hv l+Hp p*(v-rd l (p:Int))
 | [],p,v,h=>by simp at h
 | x::t,0,v,h=>by
   show v+4294967296*hv t=x+4294967296*hv t+1*(v-x)
   omega
 | x::t,p+1,v,h=>by
   have ih:=hv_set t p v (by simpa using h)
   have e:rd (x::t) ((p+1:Nat):Int)=rd t (p:Int):=by unfold rd;simp
   rw [List.set_cons_succ,hv_cons,hv_cons,ih,e,Hp_succ,Int.mul_add,Int.mul_assoc,Int.add_assoc]
theorem Hs_set {l:List Int} (h:Hs l) (p:Nat) {v:Int} (h0:0≤v) (h1:v<4294967296):Hs (l.set p v):=fun x hx=>by
 rcases List.mem_or_eq_of_mem_set hx with h2 | h2
 · exact h x h2
 · rw [h2];exact ⟨h0,h1⟩
theorem Hs_zeros (n:Nat):Hs (List.replicate n 0):=fun x hx=>by rw [List.eq_of_mem_replicate hx];omega
theorem hv_zeros (n:Nat):hv (List.replicate n 0)=0:=by
 induction n with
 | zero=>rfl
 | succ n ih=>rw [List.replicate_succ,hv_cons,ih];rfl
theorem Hp_add (a b:Nat):Hp (a+b)=Hp a*Hp b:=by unfold Hp;rw [Int.pow_add]
theorem ref03_Mul_l1 {a b:List Int} (ha:Hs a) (hb:Hs b) (hab:a.length+b.length≤900000000) {i:Nat} (hi:i<a.length) {N:Int}
 (next : ∀ z:List Int,z.length=a.length+b.length+1→Hs z→hv z=hv (a.take (i+1))*hv b→(∀ p:Nat,i+1+b.length≤p→rd z (p:Int)=0)→Ev (fun k=>gr03_Mul.l0 k a b z (a.length:Int) ((i+1:Nat):Int)) (dg N))
 (d:Nat) : ∀ (j:Nat) (z:List Int) (c:Int),j+d=b.length→z.length=a.length+b.length+1→Hs z→0≤c→c<4294967296→hv z+Hp (i+j)*c=hv (a.take i)*hv b+Hp i*(rd a (i:Int)*hv (b.take j))→(∀ p:Nat,i+b.length≤p→rd z (p:Int)=0) →
 Ev (fun k=>gr03_Mul.l1 k a b z (i:Int) c (a.length:Int) (i:Int) (b.length:Int) j) (dg N):=by
 have hx:=Hs_rd ha (i:Int)
 induction d with
 | zero =>
   intro j z c hj hz hwz hc hc1 he h0
   have HE:=Hd.mk he
   clear he
   have e:wrap64 ((i:Int)+(b.length:Int))=((i+b.length:Nat):Int):=by rw [w64_id (by omega) (by omega)];omega
   have e2:wrap64 ((i:Int)+1)=((i+1:Nat):Int):=by rw [w64_id (by omega) (by omega)];omega
   refine Ev.step (fun k=>gr03_Mul.l1.eq_2 ..) ?_
   rw [e,e2]
   refine Ev.ifn (by omega) (Ev.ifp (by omega) (Ev.ifp (by omega) ?_))
   rw [Int.toNat_natCast]
   refine next _ (by simp;omega) (Hs_set hwz _ hc hc1) ?_ ?_
   · rw [hv_set _ _ _ (by omega),h0 _ (Nat.le_refl _),hv_take_next]
     have ej:j=b.length:=by omega
     have he:=HE.out
     rw [ej,List.take_of_length_le (Nat.le_refl _)] at he
     rw [Int.sub_zero,he,Int.add_mul,Int.mul_assoc]
   · intro p hp
     rw [rd_set_ne (by omega),h0 p (by omega)]
 | succ d ih =>
   intro j z c hj hz hwz hc hc1 he h0
   have HE:=Hd.mk he
   clear he
   have hy:=Hs_rd hb (j:Int)
   have e:wrap64 ((i:Int)+(j:Int))=((i+j:Nat):Int):=by rw [w64_id (by omega) (by omega)];rfl
   have e2:wrap64 ((j:Int)+1)=((j+1:Nat):Int):=by rw [w64_id (by omega) (by omega)];omega
   refine Ev.step (fun k=>gr03_Mul.l1.eq_2 ..) ?_
   rw [e,e2]
   have hPb:=mul_bound (m:=4294967295) (n:=4294967295) hx.1 (Int.le_of_lt_add_one hx.2) hy.1 (Int.le_of_lt_add_one hy.2)
   have hP0:=hPb.1
   have hP1:rd a (i:Int)*rd b (j:Int)≤18446744065119617025:=Int.le_trans hPb.2 (by decide)
   clear hPb
   have hs:=Hs_rd hwz ((i+j:Nat):Int)
   rw [Int.toNat_natCast]
   generalize hP:rd a (i:Int)*rd b (j:Int)=P at *
   generalize hS:rd z ((i+j:Nat):Int)=S at *
   have HP:=Hd.mk hP
   have HS:=Hd.mk hS
   clear hP hS hx hy
   rw [wu_id (n:=P) (by omega) (by omega),wu_id (n:=c+P) (by omega) (by omega),wu_id (by omega) (by omega),and32 _ (by omega) (by omega)]
   have hq:c+P+S=4294967296*((c+P+S)/4294967296)+(c+P+S)%4294967296:=by omega
   have hq0:0≤(c+P+S)/4294967296∧(c+P+S)/4294967296<4294967296:=by omega
   have hr0:0≤(c+P+S)%4294967296∧(c+P+S)%4294967296<4294967296:=by omega
   generalize (c+P+S)/4294967296=q at *
   generalize (c+P+S)%4294967296=r at *
   refine Ev.ifp (by omega) (Ev.ifp (by omega) (Ev.ifp (by omega) (Ev.ifp (by omega) (Ev.ifp (by omega) (Ev.ifp (by omega) (Ev.ifp (by omega) ?_))))))
   refine ih (j+1) _ _ (by omega) (by simp;omega) (Hs_set hwz _ hr0.1 hr0.2) hq0.1 hq0.2 ?_ ?_
   · have he:=HE.out
     rw [hv_set _ _ _ (by omega),HS.out,hv_take_next,← Nat.add_assoc,Hp_succ]
     have hc':c=4294967296*q+r-P-S:=by omega
     rw [hc',← HP.out] at he
     have hWa:=Hp_add i j
     grind
   · intro p hp
     rw [rd_set_ne (by omega),h0 p hp]
theorem ref03_Mul_l0 {a b:List Int} (ha:Hs a) (hb:Hs b) (hab:a.length+b.length≤900000000) (d:Nat) : ∀ (i:Nat) (z:List Int),i+d=a.length→z.length=a.length+b.length+1→Hs z→hv z=hv (a.take i)*hv b→(∀ p:Nat,i+b.length≤p→rd z (p:Int)=0) →
 Ev (fun k=>gr03_Mul.l0 k a b z (a.length:Int) i) (dg (hv a*hv b)):=by
 induction d with
 | zero =>
   intro i z hi hz hwz he h0
   refine Ev.step (fun k=>gr03_Mul.l0.eq_2 ..) ?_
   refine Ev.ifn (by omega) ?_
   rw [List.take_of_length_le (by omega)] at he
   rw [← he]
   exact Ev.bind (ref02_Whole_c hwz (by omega)) (Ev.same rfl)
 | succ d ih =>
   intro i z hi hz hwz he h0
   refine Ev.step (fun k=>gr03_Mul.l0.eq_2 ..) ?_
   refine Ev.ifp (by omega) ?_
   exact ref03_Mul_l1 ha hb hab (by omega) (fun z h1 h2 h3 h4=>ih (i+1) z (by omega) h1 h2 h3 h4) b.length 0 z 0 (by omega) hz hwz (by omega) (by omega) (by simp [hv];omega) h0
theorem ref03_Mul_c {a b:List Int} (ha:Wl a) (hb:Wl b) (hla:a.length≤100000000) (hlb:b.length≤100000000):Ev (fun k=>gr03_Mul.f k a b) (dg (nv a*nv b)):=by
 obtain ⟨a1,a2,a3⟩:=hh_spec ha.1
 obtain ⟨b1,b2,b3⟩:=hh_spec hb.1
 refine Ev.bind (ref02_Halves_c ha (by omega)) (Ev.bind (ref02_Halves_c hb (by omega)) ?_)
 have e:wrap64 (wrap64 (((hh a).length:Int)+((hh b).length:Int))+1)=(((hh a).length+(hh b).length+1:Nat):Int):=by
  rw [w64_id (n:=((hh a).length:Int)+((hh b).length:Int)) (by omega) (by omega),w64_id (by omega) (by omega)];omega
 rw [e,Int.toNat_natCast,← a2,← b2]
 refine Ev.ifp (by omega) (Ev.ifp (by omega) ?_)
 exact ref03_Mul_l0 a1 b1 (by omega) (hh a).length 0 _ (by omega) (by simp) (Hs_zeros _) (by rw [hv_zeros,List.take_zero];simp [hv]) (fun p _=>rd_zeros _ p)
theorem quot_Word_l {a:List Int} (ha:Wl a) {d:Int} (hd0:0<d) (hd:d<18446744073709551616) (n:Nat) : ∀ (Q:List Int) (R:Int),n+Q.length=a.length→Ws Q→0≤R→R<d→nv (a.drop n)=nv Q*d+R→ ∀ i:Int,i=(n:Int)-1 →
 Ev (fun k=>quot_Word.l0 k a d (List.replicate n 0++Q) R i) (dg (nv a/d),nv a%d,true):=by
 have hal:=ha.2
 induction n with
 | zero =>
   intro Q R hn hQ h0 h1 he i hi
   refine Ev.step (fun k=>quot_Word.l0.eq_2 ..) ?_
   refine Ev.ifn (by omega) ?_
   rw [List.drop_zero] at he
   have hm:nv a/d=nv Q∧nv a%d=R:=by
    rw [he,Int.add_comm,Int.mul_comm]
    exact ⟨by rw [Int.add_mul_ediv_left _ _ (by omega),Int.ediv_eq_zero_of_lt h0 h1];omega,by rw [Int.add_mul_emod_self_left,Int.emod_eq_of_lt h0 h1]⟩
   rw [hm.1,hm.2]
   exact Ev.bind (nat_Trim_c (l:=Q) ⟨hQ,by omega⟩) (Ev.same rfl)
 | succ n ih =>
   intro Q R hn hQ h0 h1 he i hi
   have ei:i=(n:Int):=by omega
   subst ei
   have hx:=U_rd ha.1 (n:Int)
   have e:wrap64 ((n:Int)-1)=(n:Int)-1:=w64_id (by omega) (by omega)
   have er:List.replicate (n+1) 0++Q=List.replicate n 0++(0:Int)::Q:=by rw [List.replicate_succ',List.append_assoc];rfl
   have es : ∀ v,(List.replicate n 0++(0:Int)::Q).set (n:Int).toNat v=List.replicate n 0++v::Q:=fun v=>by
    have:=set_mid (List.replicate n 0) 0 v Q
    rw [List.length_replicate] at this
    rw [Int.toNat_natCast];exact this
   refine Ev.step (fun k=>quot_Word.l0.eq_2 ..) ?_
   rw [er,e]
   refine Ev.ifp (by omega) (Ev.ifp (by omega) (Ev.ifp (by omega) (Ev.bind (limb_Div_c h0 h1 hd hx) (Ev.ifp (by rw [List.length_append,List.length_replicate,List.length_cons];omega) ?_))))
   dsimp only
   rw [es]
   have hD:=Int.mul_ediv_add_emod (R*18446744073709551616+rd a (n:Int)) d
   have hm0:=Int.emod_nonneg (R*18446744073709551616+rd a (n:Int)) (show d≠0 by omega)
   have hm1:=Int.emod_lt_of_pos (R*18446744073709551616+rd a (n:Int)) hd0
   have hq0:0≤(R*18446744073709551616+rd a (n:Int))/d:=Int.ediv_nonneg (by have:=hx.1;omega) (by omega)
   have hq1:(R*18446744073709551616+rd a (n:Int))/d<18446744073709551616:=by
    rw [Int.ediv_lt_iff_lt_mul hd0]
    have:=hx.2
    have h2:(R+1)*18446744073709551616≤d*18446744073709551616:=Int.mul_le_mul_of_nonneg_right (by omega) (by omega)
    omega
   generalize (R*18446744073709551616+rd a (n:Int))/d=q at *
   generalize (R*18446744073709551616+rd a (n:Int))%d=r at *
   refine ih (q::Q) r (by rw [List.length_cons];omega) (Ws_cons.2 ⟨⟨hq0,hq1⟩,hQ⟩) hm0 hm1 ?_ _ rfl
   rw [drop_rd (by omega),nv_cons,nv_cons,he]
   generalize rd a (n:Int)=x at *
   grind
theorem quot_Word_c {a:List Int} (ha:Wl a) {d:Int} (hd0:0<d) (hd:d<18446744073709551616):Ev (fun k=>quot_Word.f k a d) (dg (nv a/d),nv a%d,true):=by
 have hal:=ha.2
 refine Ev.ifn (by omega) (Ev.ifp (by omega) (Ev.ifp (by rw [Int.toNat_natCast];omega) ?_))
 have:=quot_Word_l ha hd0 hd a.length [] 0 (by simp) Ws_nil (by omega) hd0 (by rw [List.drop_eq_nil_of_le (Nat.le_refl _)];simp [nv]) (wrap64 ((a.length:Int)-1)) (w64_id (by omega) (by omega))
 rw [List.append_nil] at this
 rw [Int.toNat_natCast]
 exact this
theorem quot_take_l {z0 d:List Int} (hd:Wl d) {j:Nat} {qh:Int} (hq:U qh) (hj:j+d.length<z0.length) (hz0:z0.length≤1000000000) (e:Nat) : ∀ (i:Nat) (z:List Int) (c b:Int),i+e=d.length→z.length=z0.length→Ws z→U c→0≤b→b≤1→nv z-Wp (j+i)*(c+b)=nv z0-Wp j*(qh*nv (d.take i))→(∀ p:Nat,j+d.length<p→rd z (p:Int)=rd z0 (p:Int)) →
 ∃ (z':List Int) (b':Int),Ev (fun k=>quot_take.l0 k z d (j:Int) qh c b d (d.length:Int) i) (b' !=0,z')∧z'.length=z0.length∧Ws z'∧0≤b'∧b'≤1∧nv z'=nv z0-Wp j*(qh*nv d)+Wp (j+d.length+1)*b'∧(∀ p:Nat,j+d.length<p→rd z' (p:Int)=rd z0 (p:Int)):=by
 induction e with
 | zero =>
   intro i z c b hi hz hw hc hb0 hb1 he ha
   have HE:=Hd.mk he
   clear he
   have ei:i=d.length:=by omega
   have ew:wrap64 ((j:Int)+(d.length:Int))=((j+d.length:Nat):Int):=by rw [w64_id (by omega) (by omega)];omega
   have hx:=U_rd hw ((j+d.length:Nat):Int)
   have S:=limb_Sub_c hx hc (c:=b) (by unfold U;omega)
   have hval:nv (z.set (j+d.length) ((rd z ((j+d.length:Nat):Int)-c-b)%18446744073709551616))=nv z0-Wp j*(qh*nv d)+Wp (j+d.length+1)*(-((rd z ((j+d.length:Nat):Int)-c-b)/18446744073709551616)):=by
    have he:=HE.out
    rw [ei,List.take_length] at he
    rw [nv_set _ _ _ (by omega),Wp_succ]
    generalize rd z ((j+d.length:Nat):Int)=x at *
    have hs:x-c-b=18446744073709551616*((x-c-b)/18446744073709551616)+(x-c-b)%18446744073709551616:=by omega
    generalize (x-c-b)/18446744073709551616=q at *
    generalize (x-c-b)%18446744073709551616=r at *
    have hx':x=18446744073709551616*q+r+c+b:=by omega
    rw [hx']
    grind
   refine ⟨z.set (j+d.length) ((rd z ((j+d.length:Nat):Int)-c-b)%18446744073709551616),-((rd z ((j+d.length:Nat):Int)-c-b)/18446744073709551616), ?_,by rw [List.length_set,hz],Ws_set hw _ ?_, ?_, ?_,hval, ?_⟩
   · refine Ev.step (fun k=>quot_take.l0.eq_2 ..) ?_
     rw [ew]
     refine Ev.ifn (by omega) (Ev.ifp (by omega) (Ev.ifp (by omega) (Ev.bindc S (Ev.same ?_))))
     rw [Int.toNat_natCast]
   · unfold U;omega
   · unfold U at hx hc;omega
   · unfold U at hx hc;omega
   · intro p hp
     rw [rd_set_ne (by omega)]
     exact ha p hp
 | succ e ih =>
   intro i z c b hi hz hw hc hb0 hb1 he ha
   have HE:=Hd.mk he
   clear he
   have ew:wrap64 ((j:Int)+(i:Int))=((j+i:Nat):Int):=by rw [w64_id (by omega) (by omega)];omega
   have ew2:wrap64 ((i:Int)+1)=((i+1:Nat):Int):=by rw [w64_id (by omega) (by omega)];omega
   have hx:=U_rd hw ((j+i:Nat):Int)
   have hy:=U_rd hd.1 (i:Int)
   have M:=limb_Mul_c hy hq
   have hP0:0≤rd d (i:Int)*qh:=Int.mul_nonneg hy.1 hq.1
   generalize hP:rd d (i:Int)*qh=P at *
   have hlo:U (P%18446744073709551616):=by clear hP;unfold U;omega
   have A:=limb_Add_c hlo hc (c:=0) (by unfold U;omega)
   have hbd:P/18446744073709551616+(P%18446744073709551616+c+0)/18446744073709551616<18446744073709551616 :=
    row_step (B:=18446744073709551616) (x:=rd d (i:Int)) (y:=qh) (s:=0) (c:=c) (hi:=P/18446744073709551616) (lo:=P%18446744073709551616) (v:=(P%18446744073709551616+c+0)%18446744073709551616) (ov:=(P%18446744073709551616+c+0)/18446744073709551616) (by omega) hy.1 hy.2 hq.1 hq.2 (by omega) (by omega) hc.1 hc.2 (by rw [hP];clear hP;omega) (by clear hP;omega) (by clear hP;omega) (by clear hP;omega)
   have HP:=Hd.mk hP
   clear hP
   have hs1:U ((P%18446744073709551616+c+0)%18446744073709551616):=by unfold U;omega
   have hc1:U (P/18446744073709551616+(P%18446744073709551616+c+0)/18446744073709551616):=by unfold U at hc ⊢;omega
   have hcs:P+c=18446744073709551616*(P/18446744073709551616+(P%18446744073709551616+c+0)/18446744073709551616)+(P%18446744073709551616+c+0)%18446744073709551616:=by omega
   have S:=limb_Sub_c hx hs1 (c:=b) (by unfold U;omega)
   refine (?_ : ∃ (z':List Int) (b':Int),_)
   have ewu:IntKind.u64.wrap (P/18446744073709551616+(P%18446744073709551616+c+0)/18446744073709551616)=P/18446744073709551616+(P%18446744073709551616+c+0)/18446744073709551616:=wu_id hc1.1 hc1.2
   have st : ∀ {r:Bool × List Int},Ev (fun k=>quot_take.l0 k (z.set (j+i) ((rd z ((j+i:Nat):Int)-(P%18446744073709551616+c+0)%18446744073709551616-b)%18446744073709551616)) d (j:Int) qh (P/18446744073709551616+(P%18446744073709551616+c+0)/18446744073709551616) (-((rd z ((j+i:Nat):Int)-(P%18446744073709551616+c+0)%18446744073709551616-b)/18446744073709551616)) d (d.length:Int) ((i+1:Nat):Int)) r→Ev (fun k=>quot_take.l0 k z d (j:Int) qh c b d (d.length:Int) i) r:=by
    intro r h
    refine Ev.step (fun k=>quot_take.l0.eq_2 ..) ?_
    rw [ew,ew2]
    refine Ev.ifp (by omega) (Ev.ifp (by omega) (Ev.ifp (by omega) (Ev.bindc M (Ev.bindc A (Ev.ifp (by omega) (Ev.ifp (by omega) (Ev.bindc S ?_)))))))
    dsimp only
    rw [Int.toNat_natCast,ewu]
    exact h
   generalize P/18446744073709551616+(P%18446744073709551616+c+0)/18446744073709551616=c' at *
   generalize (P%18446744073709551616+c+0)%18446744073709551616=s at *
   clear M A S ew ew2 ewu hbd hlo
   have hxs:rd z ((j+i:Nat):Int)-s-b=18446744073709551616*((rd z ((j+i:Nat):Int)-s-b)/18446744073709551616)+(rd z ((j+i:Nat):Int)-s-b)%18446744073709551616:=by omega
   obtain ⟨z',b',h1,h2,h3,h4,h5,h6,h7⟩:=ih (i+1) _ c' (-((rd z ((j+i:Nat):Int)-s-b)/18446744073709551616)) (by omega) (by rw [List.length_set,hz]) (Ws_set (p:=j+i) (v:=(rd z ((j+i:Nat):Int)-s-b)%18446744073709551616) hw (by unfold U;omega)) hc1 (by unfold U at hx hs1;omega) (by unfold U at hx hs1;omega) (by
    have he:=HE.out
    have hp:=HP.out
    rw [nv_set _ _ _ (by omega),nv_take_succ (by omega),← Nat.add_assoc,Wp_succ]
    have hw2:=Wp_add j i
    generalize rd z ((j+i:Nat):Int)=x at *
    generalize rd d (i:Int)=y at *
    generalize (x-s-b)/18446744073709551616=q at *
    generalize (x-s-b)%18446744073709551616=r at *
    have hx':x=18446744073709551616*q+r+s+b:=by omega
    have hs':s=y*qh+c-18446744073709551616*c':=by omega
    rw [hx',hs']
    grind) (fun p hp=>by rw [rd_set_ne (by omega)];exact ha p hp)
   exact ⟨z',b',st h1,h2,h3,h4,h5,h6,h7⟩
theorem quot_take_c {z0 d:List Int} (hz:Ws z0) (hd:Wl d) {j:Nat} {qh:Int} (hq:U qh) (hj:j+d.length<z0.length) (hz0:z0.length≤1000000000) :
 ∃ (z':List Int) (b':Int),Ev (fun k=>quot_take.f k z0 d (j:Int) qh) (b' !=0,z')∧z'.length=z0.length∧Ws z'∧0≤b'∧b'≤1∧nv z'=nv z0-Wp j*(qh*nv d)+Wp (j+d.length+1)*b'∧(∀ p:Nat,j+d.length<p→rd z' (p:Int)=rd z0 (p:Int)) :=
 quot_take_l hd hq hj hz0 d.length 0 z0 0 0 (by omega) rfl hz (by unfold U;omega) (by omega) (by omega) (by simp [nv]) (fun _ _=>rfl)
theorem quot_back_l {z0 d:List Int} (hd:Wl d) {j:Nat} (hj:j+d.length<z0.length) (hz0:z0.length≤1000000000) (e:Nat) : ∀ (i:Nat) (z:List Int) (c:Int),i+e=d.length→z.length=z0.length→Ws z→0≤c→c≤1→nv z+Wp (j+i)*c=nv z0+Wp j*nv (d.take i)→(∀ p:Nat,j+d.length<p→rd z (p:Int)=rd z0 (p:Int)) →
 ∃ (z':List Int) (o:Int),Ev (fun k=>quot_back.l0 k z d (j:Int) c d (d.length:Int) i) z'∧z'.length=z0.length∧Ws z'∧0≤o∧o≤1∧nv z'=nv z0+Wp j*nv d-Wp (j+d.length+1)*o∧(∀ p:Nat,j+d.length<p→rd z' (p:Int)=rd z0 (p:Int)):=by
 induction e with
 | zero =>
   intro i z c hi hz hw hc hc1 he ha
   have HE:=Hd.mk he
   clear he
   have ei:i=d.length:=by omega
   have ew:wrap64 ((j:Int)+(d.length:Int))=((j+d.length:Nat):Int):=by rw [w64_id (by omega) (by omega)];omega
   have hx:=U_rd hw ((j+d.length:Nat):Int)
   have hval:nv (z.set (j+d.length) ((rd z ((j+d.length:Nat):Int)+c)%18446744073709551616))=nv z0+Wp j*nv d-Wp (j+d.length+1)*((rd z ((j+d.length:Nat):Int)+c)/18446744073709551616):=by
    have he:=HE.out
    rw [ei,List.take_length] at he
    rw [nv_set _ _ _ (by omega),Wp_succ]
    generalize rd z ((j+d.length:Nat):Int)=x at *
    have hs:x+c=18446744073709551616*((x+c)/18446744073709551616)+(x+c)%18446744073709551616:=by omega
    generalize (x+c)/18446744073709551616=q at *
    generalize (x+c)%18446744073709551616=r at *
    have hx':x=18446744073709551616*q+r-c:=by omega
    rw [hx']
    grind
   refine ⟨z.set (j+d.length) ((rd z ((j+d.length:Nat):Int)+c)%18446744073709551616),(rd z ((j+d.length:Nat):Int)+c)/18446744073709551616, ?_,by rw [List.length_set,hz],Ws_set hw _ ?_, ?_, ?_,hval, ?_⟩
   · refine Ev.step (fun k=>quot_back.l0.eq_2 ..) ?_
     rw [ew]
     refine Ev.ifn (by omega) (Ev.ifp (by omega) (Ev.ifp (by omega) (Ev.same ?_)))
     rw [Int.toNat_natCast,wu]
   · unfold U;omega
   · unfold U at hx;omega
   · unfold U at hx;omega
   · intro p hp
     rw [rd_set_ne (by omega)]
     exact ha p hp
 | succ e ih =>
   intro i z c hi hz hw hc hc1 he ha
   have HE:=Hd.mk he
   clear he
   have ew:wrap64 ((j:Int)+(i:Int))=((j+i:Nat):Int):=by rw [w64_id (by omega) (by omega)];omega
   have ew2:wrap64 ((i:Int)+1)=((i+1:Nat):Int):=by rw [w64_id (by omega) (by omega)];omega
   have hx:=U_rd hw ((j+i:Nat):Int)
   have hy:=U_rd hd.1 (i:Int)
   have A:=limb_Add_c hx hy (c:=c) (by unfold U;omega)
   have st : ∀ {r:List Int},Ev (fun k=>quot_back.l0 k (z.set (j+i) ((rd z ((j+i:Nat):Int)+rd d (i:Int)+c)%18446744073709551616)) d (j:Int) ((rd z ((j+i:Nat):Int)+rd d (i:Int)+c)/18446744073709551616) d (d.length:Int) ((i+1:Nat):Int)) r→Ev (fun k=>quot_back.l0 k z d (j:Int) c d (d.length:Int) i) r:=by
    intro r h
    refine Ev.step (fun k=>quot_back.l0.eq_2 ..) ?_
    rw [ew,ew2]
    refine Ev.ifp (by omega) (Ev.ifp (by omega) (Ev.ifp (by omega) (Ev.ifp (by omega) (Ev.ifp (by omega) (Ev.bindc A ?_)))))
    dsimp only
    rw [Int.toNat_natCast]
    exact h
   clear A ew ew2
   obtain ⟨z',b',h1,h2,h3,h4,h5,h6,h7⟩:=ih (i+1) _ ((rd z ((j+i:Nat):Int)+rd d (i:Int)+c)/18446744073709551616) (by omega) (by rw [List.length_set,hz]) (Ws_set (p:=j+i) (v:=(rd z ((j+i:Nat):Int)+rd d (i:Int)+c)%18446744073709551616) hw (by unfold U;omega))
    (by have:=hx.1;have:=hy.1;generalize rd z ((j+i:Nat):Int)=x at *;generalize rd d (i:Int)=y at *;omega) (by have:=hx.2;have:=hy.2;generalize rd z ((j+i:Nat):Int)=x at *;generalize rd d (i:Int)=y at *;omega) (by
      have he:=HE.out
      rw [nv_set _ _ _ (by omega),nv_take_succ (by omega),← Nat.add_assoc,Wp_succ]
      have hw2:=Wp_add j i
      generalize rd z ((j+i:Nat):Int)=x at *
      generalize rd d (i:Int)=y at *
      have hq:x+y+c=18446744073709551616*((x+y+c)/18446744073709551616)+(x+y+c)%18446744073709551616:=by omega
      generalize (x+y+c)/18446744073709551616=q at *
      generalize (x+y+c)%18446744073709551616=r at *
      have hc':c=18446744073709551616*q+r-x-y:=by omega
      rw [hc'] at he
      grind) (fun p hp=>by rw [rd_set_ne (by omega)];exact ha p hp)
   exact ⟨z',b',st h1,h2,h3,h4,h5,h6,h7⟩
theorem quot_back_c {z0 d:List Int} (hz:Ws z0) (hd:Wl d) {j:Nat} (hj:j+d.length<z0.length) (hz0:z0.length≤1000000000) :
 ∃ (z':List Int) (o:Int),Ev (fun k=>quot_back.f k z0 d (j:Int)) z'∧z'.length=z0.length∧Ws z'∧0≤o∧o≤1∧nv z'=nv z0+Wp j*nv d-Wp (j+d.length+1)*o∧(∀ p:Nat,j+d.length<p→rd z' (p:Int)=rd z0 (p:Int)) :=
 quot_back_l hd hj hz0 d.length 0 z0 0 (by omega) rfl hz (by omega) (by omega) (by simp [nv]) (fun _ _=>rfl)

theorem quot_correct_s {t r1 r2 v1 v2:Int} (ht:U t) (hr1:U r1) (hr2:U r2) (hv1:U v1) (hv2:U v2) {x:Int} (hx:U x) (hle:x*v1≤t*18446744073709551616+r1) :
 (x*v2≤(t*18446744073709551616+r1-x*v1)*18446744073709551616+r2→Ev (fun k=>quot_correct.l0 k x t r1 r2 v1 v2) x) ∧
 (¬ x*v2≤(t*18446744073709551616+r1-x*v1)*18446744073709551616+r2→ ∀ y:Int,Ev (fun k=>quot_correct.l0 k (x-1) t r1 r2 v1 v2) y→Ev (fun k=>quot_correct.l0 k x t r1 r2 v1 v2) y):=by
 have M1:=limb_Mul_c hx hv1
 have M2:=limb_Mul_c hx hv2
 have p0:0≤x*v1:=Int.mul_nonneg hx.1 hv1.1
 have q0:0≤x*v2:=Int.mul_nonneg hx.1 hv2.1
 have q1:=mul_bound (m:=18446744073709551615) (n:=18446744073709551615) hx.1 (Int.le_of_lt_add_one hx.2) hv2.1 (Int.le_of_lt_add_one hv2.2)
 have q2:x*v2≤340282366920938463426481119284349108225:=Int.le_trans q1.2 (by decide)
 clear q1
 have x0:x=0→x*v2=0:=fun h=>by rw [h,Int.zero_mul]
 generalize x*v1=P at *
 generalize x*v2=Q at *
 have S1:=limb_Sub_c hr1 (b:=P%18446744073709551616) (by unfold U;omega) (c:=0) (by unfold U;omega)
 have hb:U (-((r1-P%18446744073709551616-0)/18446744073709551616)):=by unfold U at *;omega
 have S2:=limb_Sub_c ht (b:=P/18446744073709551616) (by unfold U at *;omega) hb
 unfold U at ht hr1 hr2
 have e1:(r1-P%18446744073709551616-0)%18446744073709551616=(t*18446744073709551616+r1-P)%18446744073709551616:=by omega
 have e2:(t-P/18446744073709551616 - -((r1-P%18446744073709551616-0)/18446744073709551616))%18446744073709551616=(t*18446744073709551616+r1-P)/18446744073709551616:=by omega
 have hrem:0≤t*18446744073709551616+r1-P:=by omega
 rw [e1] at S1
 rw [e2] at S2
 clear e1 e2 hb
 generalize t*18446744073709551616+r1-P=m at *
 have go : ∀ y:Int,(Q≤m*18446744073709551616+r2→y=x)→(¬ Q≤m*18446744073709551616+r2→Ev (fun k=>quot_correct.l0 k (IntKind.u64.wrap (x-1)) t r1 r2 v1 v2) y)→Ev (fun k=>quot_correct.l0 k x t r1 r2 v1 v2) y:=by
  intro y yes no
  refine Ev.step (fun k=>quot_correct.l0.eq_2 ..) ?_
  refine Ev.bindc M1 (Ev.bindc S1 (Ev.bindc S2 (Ev.bindc M2 ?_)))
  dsimp only
  by_cases c1:m/18446744073709551616=0
  · refine Ev.ifp c1 ?_
    by_cases c2:Q/18446744073709551616<m%18446744073709551616
    · exact Ev.ifp c2 (Ev.same (by rw [yes (by omega)]))
    · refine Ev.ifn c2 ?_
      by_cases c3:Q/18446744073709551616=m%18446744073709551616
      · refine Ev.ifp c3 ?_
        by_cases c4:Q%18446744073709551616≤r2
        · exact Ev.ifp c4 (Ev.same (by rw [yes (by omega)]))
        · exact Ev.ifn c4 (no (by omega))
      · exact Ev.ifn c3 (no (by omega))
  · exact Ev.ifn c1 (Ev.same (by rw [yes (by omega)]))
 refine ⟨fun h=>go x (fun _=>rfl) (fun h2=>absurd h h2),fun h y hy=>go y (fun h2=>absurd h2 h) (fun _=> ?_)⟩
 have hx1:1≤x:=by
  rcases (show x=0∨1≤x by have:=hx.1;omega) with h0 | h0
  · exfalso
    have:=x0 h0
    omega
  · exact h0
 rw [wu_id (by omega) (by have:=hx.2;omega)]
 exact hy
theorem quot_correct_l {t r1 r2 v1 v2:Int} (ht:U t) (hr1:U r1) (hr2:U r2) (hv1:U v1) (hv2:U v2) (n:Nat) : ∀ x:Int,x.toNat≤n→U x→x*v1≤t*18446744073709551616+r1 →
 ∃ y:Int,Ev (fun k=>quot_correct.l0 k x t r1 r2 v1 v2) y∧0≤y∧y≤x∧y*(v1*18446744073709551616+v2)≤(t*18446744073709551616+r1)*18446744073709551616+r2∧(y=x∨(t*18446744073709551616+r1)*18446744073709551616+r2<(y+1)*(v1*18446744073709551616+v2)):=by
 have T0:0≤t*18446744073709551616+r1:=by have:=ht.1;have:=hr1.1;omega
 have key : ∀ x:Int,x*(v1*18446744073709551616+v2)=x*v1*18446744073709551616+x*v2:=fun x=>by grind
 induction n with
 | zero =>
   intro x hn hx hle
   have h0:x=0:=by have:=hx.1;omega
   have h:=(quot_correct_s ht hr1 hr2 hv1 hv2 hx hle).1 (by rw [h0,Int.zero_mul,Int.zero_mul];have:=hr2.1;omega)
   exact ⟨x,h,hx.1,Int.le_refl _,by rw [h0,Int.zero_mul];have:=hr2.1;omega, .inl rfl⟩
 | succ n ih =>
   intro x hn hx hle
   obtain ⟨s1,s2⟩:=quot_correct_s ht hr1 hr2 hv1 hv2 hx hle
   have hk:=key x
   by_cases h:x*v2≤(t*18446744073709551616+r1-x*v1)*18446744073709551616+r2
   · exact ⟨x,s1 h,hx.1,Int.le_refl _,by rw [hk];omega, .inl rfl⟩
   · have x0:x=0→x*v2=0∧x*v1=0:=fun h=>by rw [h,Int.zero_mul,Int.zero_mul];exact ⟨rfl,rfl⟩
     have hx1:1≤x:=by
      rcases (show x=0∨1≤x by have:=hx.1;omega) with h0 | h0
      · exfalso
        have:=x0 h0
        have:=hr2.1
        omega
      · exact h0
     have hm:(x-1)*v1=x*v1-v1:=by rw [Int.sub_mul,Int.one_mul]
     obtain ⟨y,h1,h2,h3,h4,h5⟩:=ih (x-1) (by omega) ⟨by omega,by have:=hx.2;omega⟩ (by rw [hm];have:=hv1.1;omega)
     refine ⟨y,s2 h y h1,h2,by omega,h4, .inr ?_⟩
     rcases h5 with h5 | h5
     · rw [h5,Int.sub_add_cancel,hk];omega
     · exact h5
theorem quot_guess_c {z:List Int} (hz:Ws z) (hl:z.length≤1000000000) {p:Nat} (hp2:2≤p) (hp:p<z.length) {v1 v2:Int} (hv1:U v1) (hv2:U v2) (hv0:0<v1) (htop:rd z (p:Int)≤v1) :
 ∃ y:Int,Ev (fun k=>quot_guess.f k z (p:Int) v1 v2) y∧U y ∧
   y*(v1*18446744073709551616+v2)≤(rd z (p:Int)*18446744073709551616+rd z ((p-1:Nat):Int))*18446744073709551616+rd z ((p-2:Nat):Int) ∧
   (y=18446744073709551615∨(rd z (p:Int)*18446744073709551616+rd z ((p-1:Nat):Int))*18446744073709551616+rd z ((p-2:Nat):Int)<(y+1)*(v1*18446744073709551616+v2)):=by
 have ht:=U_rd hz (p:Int)
 have h1:=U_rd hz ((p-1:Nat):Int)
 have h2:=U_rd hz ((p-2:Nat):Int)
 have e1:wrap64 ((p:Int)-1)=((p-1:Nat):Int):=by rw [w64_id (by omega) (by omega)];omega
 have e2:wrap64 ((p:Int)-2)=((p-2:Nat):Int):=by rw [w64_id (by omega) (by omega)];omega
 have st : ∀ y:Int,(rd z (p:Int)≥v1→Ev (fun k=>quot_correct.l0 k 18446744073709551615 (rd z (p:Int)) (rd z ((p-1:Nat):Int)) (rd z ((p-2:Nat):Int)) v1 v2) y) →
  (¬ rd z (p:Int)≥v1→Ev (fun k=>quot_correct.l0 k ((rd z (p:Int)*18446744073709551616+rd z ((p-1:Nat):Int))/v1) (rd z (p:Int)) (rd z ((p-1:Nat):Int)) (rd z ((p-2:Nat):Int)) v1 v2) y)→Ev (fun k=>quot_guess.f k z (p:Int) v1 v2) y:=by
  intro y f1 f2
  unfold quot_guess.f
  rw [e1,e2]
  refine Ev.ifp (by omega) (Ev.ifp (by omega) (Ev.ifp (by omega) (Ev.ifp (by omega) (Ev.ifp (by omega) (Ev.ifp (by omega) ?_)))))
  by_cases h:rd z (p:Int)≥v1
  · exact Ev.ifp h (Ev.bind (f1 h) (Ev.same rfl))
  · exact Ev.ifn h (Ev.bind (limb_Div_c ht.1 (by omega) hv1.2 h1) (Ev.bind (f2 h) (Ev.same rfl)))
 clear e1 e2
 generalize rd z (p:Int)=t at *
 generalize rd z ((p-1:Nat):Int)=r1 at *
 generalize rd z ((p-2:Nat):Int)=r2 at *
 by_cases h:t≥v1
 · have et:t=v1:=by omega
   obtain ⟨y,y1,y2,y3,y4,y5⟩:=quot_correct_l ht h1 h2 hv1 hv2 18446744073709551615 18446744073709551615 (by decide) (by unfold U;omega) (by have:=h1.1;omega)
   exact ⟨y,st y (fun _=>y1) (fun h2=>absurd h h2),⟨y2,by omega⟩,y4,y5⟩
 · have hx0:0≤(t*18446744073709551616+r1)/v1:=Int.ediv_nonneg (by have:=ht.1;have:=h1.1;omega) (by omega)
   have hD:=Int.mul_ediv_add_emod (t*18446744073709551616+r1) v1
   have hm0:=Int.emod_nonneg (t*18446744073709551616+r1) (show v1≠0 by omega)
   have hm1:=Int.emod_lt_of_pos (t*18446744073709551616+r1) hv0
   have hx1:(t*18446744073709551616+r1)/v1<18446744073709551616:=by
    rw [Int.ediv_lt_iff_lt_mul hv0]
    have:=h1.2
    have h3:(t+1)*18446744073709551616≤v1*18446744073709551616:=Int.mul_le_mul_of_nonneg_right (by omega) (by omega)
    omega
   generalize hx:(t*18446744073709551616+r1)/v1=x at *
   rw [Int.mul_comm] at hD
   obtain ⟨y,y1,y2,y3,y4,y5⟩:=quot_correct_l ht h1 h2 hv1 hv2 x.toNat x (Nat.le_refl _) ⟨hx0,hx1⟩ (by omega)
   refine ⟨y,st y (fun h2=>absurd h2 h) (fun _=>y1),⟨y2,by omega⟩,y4, .inr ?_⟩
   rcases y5 with y5 | y5
   · have h3:t*18446744073709551616+r1+1≤(y+1)*v1:=by rw [y5,Int.add_mul,Int.one_mul];omega
     have h4:(y+1)*(v1*18446744073709551616+v2)=(y+1)*v1*18446744073709551616+(y+1)*v2:=by grind
     have h5:0≤(y+1)*v2:=Int.mul_nonneg (by omega) hv2.1
     have:=h2.2
     rw [h4]
     generalize (y+1)*v1=e at *
     generalize (y+1)*v2=f at *
     omega
   · exact y5
theorem nv_zero_of : ∀ {l:List Int},Ws l→nv l=0→ ∀ p:Nat,rd l (p:Int)=0
 | [],_,_,p=>by unfold rd;simp
 | x::t,h,h0,p=>by
   obtain ⟨hx,ht⟩:=Ws_cons.1 h
   have hn:=nv_nonneg ht
   rw [nv_cons] at h0
   have:=hx.1
   cases p with
   | zero=>show x=0;omega
   | succ p =>
     have e:rd (x::t) ((p+1:Nat):Int)=rd t (p:Int):=by unfold rd;simp
     rw [e];exact nv_zero_of ht (by omega) p
theorem nv_zero_if : ∀ {l:List Int},(∀ p:Nat,rd l (p:Int)=0)→nv l=0
 | [],_=>rfl
 | x::t,h=>by
   have h0:x=0:=h 0
   have ht:nv t=0:=nv_zero_if fun p=>by
    have e:rd (x::t) ((p+1:Nat):Int)=rd t (p:Int):=by unfold rd;simp
    rw [← e];exact h (p+1)
   rw [nv_cons,h0,ht];rfl
theorem rd_drop (l:List Int) (k p:Nat):rd (l.drop k) (p:Int)=rd l ((k+p:Nat):Int):=by
 unfold rd
 rw [List.getD_eq_getElem?_getD,List.getD_eq_getElem?_getD,Int.toNat_natCast,Int.toNat_natCast,List.getElem?_drop]
theorem above_zero {l:List Int} (h:Ws l) {k:Nat} (hlt:nv l<Wp k) : ∀ p:Nat,k≤p→rd l (p:Int)=0:=by
 intro p hp
 have h1:=nv_div_Wp h k
 rw [Int.ediv_eq_zero_of_lt (nv_nonneg h) hlt] at h1
 have h2:=nv_zero_of (Ws_drop h k) h1.symm (p-k)
 rw [rd_drop,show k+(p-k)=p by omega] at h2
 exact h2
theorem below_of {l:List Int} (h:Ws l) {k:Nat} (h0 : ∀ p:Nat,k≤p→rd l (p:Int)=0):nv l<Wp k:=by
 have h1:nv (l.drop k)=0:=nv_zero_if fun p=>by rw [rd_drop];exact h0 _ (by omega)
 have h2:=nv_div_Wp h k
 rw [h1] at h2
 have h3:=Int.mul_ediv_add_emod (nv l) (Wp k)
 have h4:=Int.emod_lt_of_pos (nv l) (Wp_pos k)
 rw [h2] at h3
 omega
theorem knuth {J K D R T v low dl y:Int} (hJ:0<J) (hK:0<K) (hR:R=T*(J*K)+low) (hl0:0≤low) (hl1:low<J*K) (hD:D=v*K+dl) (hd0:0≤dl) (hd1:dl<K) (hv:18446744073709551616≤v) (hy0:0≤y) (hy1:y<18446744073709551616)
 (h1:y*v≤T) (h2:y=18446744073709551615∨T<(y+1)*v) (h3:R<D*J*18446744073709551616):R<J*(D*(y+1))∧J*(D*(y-1))≤R:=by
 have hJK:0<J*K:=Int.mul_pos hJ hK
 have hvD:v*K≤D:=by omega
 have hT0:0≤T:=Int.le_trans (Int.mul_nonneg hy0 (by omega)) h1
 constructor
 · rcases h2 with h2 | h2
   · rw [h2,show J*(D*(18446744073709551615+1))=D*J*18446744073709551616 by grind];exact h3
   · have a1:(T+1)*(J*K)≤(y+1)*v*(J*K):=Int.mul_le_mul_of_nonneg_right (by omega) (Int.le_of_lt hJK)
     have a2:J*(y+1)*(v*K)≤J*(y+1)*D:=Int.mul_le_mul_of_nonneg_left hvD (Int.mul_nonneg (Int.le_of_lt hJ) (by omega))
     have a3:(y+1)*v*(J*K)=J*(y+1)*(v*K):=by grind
     have a4:J*(D*(y+1))=J*(y+1)*D:=by grind
     rw [Int.add_mul,Int.one_mul] at a1
     omega
 · have r0:0≤R:=by have:=Int.mul_nonneg hT0 (Int.le_of_lt hJK);omega
   rcases (show y=0∨1≤y by omega) with h | h
   · have hD0:0≤D:=by have:=Int.mul_nonneg (show 0≤v by omega) (Int.le_of_lt hK);omega
     have:J*(D*(y-1))= -(J*D):=by rw [h];grind
     have h5:=Int.mul_nonneg (Int.le_of_lt hJ) hD0
     omega
   · have b1:D≤(v+1)*K:=by rw [Int.add_mul,Int.one_mul];omega
     have b2:(y-1)*D≤(y-1)*((v+1)*K):=Int.mul_le_mul_of_nonneg_left b1 (by omega)
     have b3:(y-1)*(v+1)≤y*v:=by
      have:(y-1)*(v+1)=y*v-v+y-1:=by grind
      omega
     have b4:(y-1)*(v+1)*K≤T*K:=Int.mul_le_mul_of_nonneg_right (Int.le_trans b3 h1) (Int.le_of_lt hK)
     have b5:(y-1)*D≤T*K:=by rw [← Int.mul_assoc] at b2;omega
     have b6:=Int.mul_le_mul_of_nonneg_left b5 (Int.le_of_lt hJ)
     have b7:J*(D*(y-1))=J*((y-1)*D):=by rw [Int.mul_comm D]
     have b8:J*(T*K)=T*(J*K):=by grind
     omega
theorem top_three {l:List Int} (h:Ws l) {p:Nat} (h2:2≤p) (hp:p<l.length) (hz:nv l<Wp (p+1)) :
 ∃ low:Int,0≤low∧low<Wp (p-2)∧nv l=((rd l (p:Int)*18446744073709551616+rd l ((p-1:Nat):Int))*18446744073709551616+rd l ((p-2:Nat):Int))*Wp (p-2)+low:=by
 refine ⟨nv (l.take (p-2)),nv_nonneg (Ws_take h _), ?_, ?_⟩
 · have:=nv_lt (Ws_take h (p-2))
   rwa [List.length_take,Nat.min_eq_left (by omega)] at this
 · have h0:nv (l.drop (p+1))=0:=nv_zero_if fun q=>by rw [rd_drop];exact above_zero h hz _ (by omega)
   have e1:=drop_rd (l:=l) (i:=p-2) (by omega)
   have e2:=drop_rd (l:=l) (i:=p-1) (by omega)
   have e3:=drop_rd (l:=l) (i:=p) hp
   have e4:=nv_split' l (p-2)
   rw [e1,show p-2+1=p-1 by omega,e2,show p-1+1=p by omega,e3,nv_cons,nv_cons,nv_cons,h0] at e4
   rw [e4]
   grind
theorem top_two {l:List Int} (h:Ws l) (h2:2≤l.length) :
 ∃ low:Int,0≤low∧low<Wp (l.length-2)∧nv l=(rd l ((l.length-1:Nat):Int)*18446744073709551616+rd l ((l.length-2:Nat):Int))*Wp (l.length-2)+low:=by
 refine ⟨nv (l.take (l.length-2)),nv_nonneg (Ws_take h _), ?_, ?_⟩
 · have:=nv_lt (Ws_take h (l.length-2))
   rwa [List.length_take,Nat.min_eq_left (by omega)] at this
 · have e1:=drop_rd (l:=l) (i:=l.length-2) (by omega)
   have e2:=drop_rd (l:=l) (i:=l.length-1) (by omega)
   have e4:=nv_split' l (l.length-2)
   rw [e1,show l.length-2+1=l.length-1 by omega,e2,show l.length-1+1=l.length by omega,List.drop_length,nv_cons,nv_cons] at e4
   rw [e4]
   show _+_*(_+18446744073709551616*(_+18446744073709551616*0))=_
   grind
theorem quot_long_turn {d:List Int} (hd:Wl d) (hn:2≤d.length) (hv:9223372036854775808≤rd d ((d.length-1:Nat):Int)) {j:Nat} {r:List Int} (hr:Ws r) (hlen:j+d.length<r.length) (hmax:r.length≤1000000000) (hlt:nv r<nv d*Wp (j+1)) :
 ∃ (y:Int),(Ev (fun k=>quot_guess.f k r ((j+d.length:Nat):Int) (rd d ((d.length-1:Nat):Int)) (rd d ((d.length-2:Nat):Int))) y) ∧
   ((∃ r':List Int,Ev (fun k=>quot_take.f k r d (j:Int) y) (false,r')∧r'.length=r.length∧Ws r'∧U y∧nv r=nv r'+Wp j*(y*nv d)∧nv r'<nv d*Wp j) ∨
    (∃ z r':List Int,Ev (fun k=>quot_take.f k r d (j:Int) y) (true,z)∧Ev (fun k=>quot_back.f k z d (j:Int)) r'∧r'.length=r.length∧Ws r'∧1≤y∧U y∧nv r=nv r'+Wp j*((y-1)*nv d)∧nv r'<nv d*Wp j)):=by
 have hD:=nv_lt hd.1
 have hJ:=Wp_pos j
 have hR0:=nv_nonneg hr
 have hD0:=nv_nonneg hd.1
 have hRlt:nv r<Wp (j+d.length+1):=by
  have h1:nv d*Wp (j+1)≤Wp d.length*Wp (j+1):=Int.mul_le_mul_of_nonneg_right (Int.le_of_lt hD) (Int.le_of_lt (Wp_pos _))
  rw [← Wp_add,show d.length+(j+1)=j+d.length+1 by omega] at h1
  omega
 obtain ⟨low,hl0,hl1,hlR⟩:=top_three hr (p:=j+d.length) (by omega) hlen hRlt
 obtain ⟨dl,hd0,hd1,hdD⟩:=top_two hd.1 hn
 have hv1:=U_rd hd.1 ((d.length-1:Nat):Int)
 have hv2:=U_rd hd.1 ((d.length-2:Nat):Int)
 have hK:=Wp_pos (d.length-2)
 have hWJK:Wp (j+d.length-2)=Wp j*Wp (d.length-2):=by rw [← Wp_add];congr 1;omega
 have htop:rd r ((j+d.length:Nat):Int)≤rd d ((d.length-1:Nat):Int):=by
  have hx2:=(U_rd hr ((j+d.length-1:Nat):Int)).1
  have hx3:=(U_rd hr ((j+d.length-2:Nat):Int)).1
  have h1:(nv r)<(rd d ((d.length-1:Nat):Int)*18446744073709551616+rd d ((d.length-2:Nat):Int)+1)*Wp (d.length-2)*Wp (j+1):=by
   refine Int.lt_of_lt_of_le hlt (Int.mul_le_mul_of_nonneg_right ?_ (Int.le_of_lt (Wp_pos _)))
   rw [hdD,Int.add_mul (_*_+_) 1,Int.one_mul];omega
  have h2:(rd d ((d.length-1:Nat):Int)*18446744073709551616+rd d ((d.length-2:Nat):Int)+1)*Wp (d.length-2)*Wp (j+1)=(rd d ((d.length-1:Nat):Int)*18446744073709551616+rd d ((d.length-2:Nat):Int)+1)*18446744073709551616*Wp (j+d.length-2):=by
   rw [hWJK,Wp_succ];grind
  have h3:((rd r ((j+d.length:Nat):Int)*18446744073709551616+rd r ((j+d.length-1:Nat):Int))*18446744073709551616+rd r ((j+d.length-2:Nat):Int))*Wp (j+d.length-2)<(rd d ((d.length-1:Nat):Int)*18446744073709551616+rd d ((d.length-2:Nat):Int)+1)*18446744073709551616*Wp (j+d.length-2):=by
   rw [← h2];omega
  have h4:=Int.lt_of_mul_lt_mul_right h3 (Int.le_of_lt (Wp_pos _))
  have:=hv2.2
  clear h1 h2 h3 hlt hlR hdD hl1 hd1 hWJK hRlt
  generalize rd r ((j+d.length:Nat):Int)=a at *
  generalize rd r ((j+d.length-1:Nat):Int)=b at *
  generalize rd r ((j+d.length-2:Nat):Int)=c at *
  generalize rd d ((d.length-1:Nat):Int)=e at *
  generalize rd d ((d.length-2:Nat):Int)=f at *
  omega
 obtain ⟨y,g1,g2,g3,g4⟩:=quot_guess_c hr hmax (p:=j+d.length) (by omega) hlen hv1 hv2 (by omega) htop
 obtain ⟨k1,k2⟩:=knuth hJ hK (R:=nv r) (D:=nv d) (by rw [← hWJK];exact hlR) hl0 (by rw [← hWJK];exact hl1) hdD hd0 hd1 (by have:=hv2.1;omega) g2.1 g2.2 g3 g4 (by
  have:nv d*Wp j*18446744073709551616=nv d*Wp (j+1):=by rw [Wp_succ];grind
  rw [this];exact hlt)
 obtain ⟨z,b,t1,t2,t3,t4,t5,t6,t7⟩:=quot_take_c hr hd g2 hlen hmax
 have zlt:=below_of t3 (k:=j+d.length+1) (fun p hp=>by rw [t7 p (by omega)];exact above_zero hr hRlt p hp)
 have z0:=nv_nonneg t3
 refine ⟨y,g1, ?_⟩
 have hyD:Wp j*(nv d*(y+1))=Wp j*(y*nv d)+nv d*Wp j:=by grind
 have hyD2:Wp j*(nv d*(y-1))=Wp j*(y*nv d)-Wp j*nv d:=by grind
 have hcomm:nv d*Wp j=Wp j*nv d:=Int.mul_comm _ _
 rcases (show b=0∨b=1 by omega) with hb | hb
 · subst hb
   rw [Int.mul_zero,Int.add_zero] at t6
   exact .inl ⟨z,t1,t2,t3,g2,by omega,by omega⟩
 · subst hb
   obtain ⟨r',o,s1,s2,s3,s4,s5,s6,s7⟩:=quot_back_c t3 hd (by rw [t2];exact hlen) (by omega)
   have rlt:=below_of s3 (k:=j+d.length+1) (fun p hp=>by rw [s7 p (by omega),t7 p (by omega)];exact above_zero hr hRlt p hp)
   have r0:=nv_nonneg s3
   have ho:o=1:=by
    rcases (show o=0∨o=1 by omega) with h | h
    · subst h;omega
    · exact h
   subst ho
   have hy1:1≤y:=by
    rcases (show y=0∨1≤y by have:=g2.1;omega) with h | h
    · exfalso
      have:Wp j*(y*nv d)=0:=by rw [h,Int.zero_mul,Int.mul_zero]
      omega
    · exact h
   have hyD3:Wp j*((y-1)*nv d)=Wp j*(y*nv d)-Wp j*nv d:=by rw [← hyD2,Int.mul_comm (nv d)]
   exact .inr ⟨z,r',t1,s1,by omega,s3,hy1,g2,by omega,by omega⟩
theorem quot_long_l1 {d:List Int} (hd:Wl d) (hn:2≤d.length) (hv:9223372036854775808≤rd d ((d.length-1:Nat):Int)) {s:Nat} (hs:s≤63) {A:Int} (m:Nat) : ∀ (r Q:List Int),Ws r→m+d.length≤r.length→r.length≤1000000000→Ws Q→m+Q.length≤1000000000→nv r<nv d*Wp m→A=nv r+Wp m*(nv Q*nv d)→ ∀ i:Int,i=(m:Int)-1 →
 Ev (fun k=>quot_long.l1 k (s:Int) d r (d.length:Int) (List.replicate m 0++Q) i) (dg (A/nv d),dg (A%nv d/2^s)):=by
 induction m with
 | zero =>
   intro r Q hr hl hmax hQ hQl hlt he i hi
   have r0:=nv_nonneg hr
   rw [Wp_zero,Int.mul_one] at hlt
   rw [Wp_zero,Int.one_mul] at he
   have hq:A/nv d=nv Q:=by rw [he,Int.mul_comm,Int.add_mul_ediv_left _ _ (by omega),Int.ediv_eq_zero_of_lt r0 hlt];omega
   have hm:A%nv d=nv r:=by rw [he,Int.mul_comm,Int.add_mul_emod_self_left,Int.emod_eq_of_lt r0 hlt]
   have S:=nat_Shr_c (a:=r) ⟨hr,hmax⟩ (n:=(s:Int)) (by omega)
   rw [Int.toNat_natCast] at S
   refine Ev.step (fun k=>quot_long.l1.eq_2 ..) ?_
   rw [hq,hm]
   exact Ev.ifn (by omega) (Ev.bind (nat_Trim_c (l:=Q) ⟨hQ,by omega⟩) (Ev.bind S (Ev.same rfl)))
 | succ j ih =>
   intro r Q hr hl hmax hQ hQl hlt he i hi
   have ei:i=(j:Int):=by omega
   subst ei
   have HE:=Hd.mk he
   have HL:=Hd.mk hlt
   have HV:=Hd.mk hv
   clear he hlt hv
   have e1:wrap64 ((d.length:Int)-1)=((d.length-1:Nat):Int):=by rw [w64_id (by omega) (by omega)];omega
   have e2:wrap64 ((d.length:Int)-2)=((d.length-2:Nat):Int):=by rw [w64_id (by omega) (by omega)];omega
   have e3:wrap64 ((j:Int)+(d.length:Int))=((j+d.length:Nat):Int):=by rw [w64_id (by omega) (by omega)];omega
   have e4:wrap64 ((j:Int)-1)=(j:Int)-1:=w64_id (by omega) (by omega)
   have er:List.replicate (j+1) 0++Q=List.replicate j 0++(0:Int)::Q:=by rw [List.replicate_succ',List.append_assoc];rfl
   have es : ∀ v,(List.replicate j 0++(0:Int)::Q).set (j:Int).toNat v=List.replicate j 0++v::Q:=fun v=>by
    have:=set_mid (List.replicate j 0) 0 v Q
    rw [List.length_replicate] at this
    rw [Int.toNat_natCast];exact this
   have el:(List.replicate j 0++(0:Int)::Q).length=j+1+Q.length:=by rw [List.length_append,List.length_replicate,List.length_cons];omega
   obtain ⟨y,g,h⟩:=quot_long_turn hd hn HV.out hr (j:=j) (by omega) hmax HL.out
   refine Ev.step (fun k=>quot_long.l1.eq_2 ..) ?_
   rw [e1,e2,e3,e4,er]
   refine Ev.ifp (by omega) (Ev.ifp (by omega) (Ev.ifp (by omega) (Ev.ifp (by omega) (Ev.ifp (by omega) (Ev.bind g ?_)))))
   have hval : ∀ (q v:Int),nv r=v+Wp j*(q*nv d)→A=v+Wp j*(nv (q::Q)*nv d):=by
    intro q v hv2
    rw [HE.out,hv2,nv_cons,Wp_succ]
    grind
   rcases h with ⟨r',t1,t2,t3,t4,t5,t6⟩ | ⟨z,r',t1,b1,t2,t3,t0,t4,t5,t6⟩
   · have h2:=ih r' (y::Q) t3 (by omega) (by omega) (Ws_cons.2 ⟨t4,hQ⟩) (by rw [List.length_cons];omega) t6 (hval _ _ t5) _ rfl
     refine Ev.bind t1 (Ev.ifn (by simp) (Ev.ifp (by omega) (Ev.ifp (by rw [el];omega) ?_)))
     rw [es]
     exact h2
   · have h2:=ih r' ((y-1)::Q) t3 (by omega) (by omega) (Ws_cons.2 ⟨⟨by omega,by have:=t4.2;omega⟩,hQ⟩) (by rw [List.length_cons];omega) t6 (hval _ _ t5) _ rfl
     refine Ev.bind t1 (Ev.ifp rfl (Ev.bind b1 (Ev.ifp (by omega) (Ev.ifp (by rw [el];omega) ?_))))
     rw [es,wu_id (by omega) (by have:=t4.2;omega)]
     exact h2
theorem nv_pad (l:List Int) (n:Nat):nv (l++List.replicate n 0)=nv l:=by rw [nv_app,nv_zeros];omega
theorem quot_long_l0 {a d:List Int} (hla:a.length≤900000000) (hd:Wl d) (hn:2≤d.length) (hda:d.length≤a.length) (hv:9223372036854775808≤rd d ((d.length-1:Nat):Int)) {s:Nat} (hs:s≤63) (e:Nat) : ∀ r:List Int,Ws r→r.length+e=a.length+1→nv r<nv d*Wp (a.length+1-d.length) →
 Ev (fun k=>quot_long.l0 k a (s:Int) d r) (dg (nv r/nv d),dg (nv r%nv d/2^s)):=by
 induction e with
 | zero =>
   intro r hr hl hlt
   have HL:=Hd.mk hlt
   have HV:=Hd.mk hv
   clear hlt hv
   have e1:wrap64 ((a.length:Int)+1)=((a.length+1:Nat):Int):=by rw [w64_id (by omega) (by omega)];omega
   have e2:wrap64 ((r.length:Int)-(d.length:Int))=((a.length+1-d.length:Nat):Int):=by rw [w64_id (by omega) (by omega)];omega
   have e3:wrap64 (((List.replicate (a.length+1-d.length) (0:Int)).length:Int)-1)=((a.length+1-d.length:Nat):Int)-1:=by rw [List.length_replicate,w64_id (by omega) (by omega)]
   have h:=quot_long_l1 hd hn HV.out hs (A:=nv r) (a.length+1-d.length) r [] hr (by omega) (by omega) Ws_nil (by simp;omega) HL.out (by simp [nv]) _ rfl
   rw [List.append_nil] at h
   refine Ev.step (fun k=>quot_long.l0.eq_2 ..) ?_
   rw [e1,e2,Int.toNat_natCast]
   refine Ev.ifn (by omega) (Ev.ifp (by omega) (Ev.ifp (by omega) (Ev.bindc rfl ?_)))
   rw [e3]
   exact h
 | succ e ih =>
   intro r hr hl hlt
   have e1:wrap64 ((a.length:Int)+1)=((a.length+1:Nat):Int):=by rw [w64_id (by omega) (by omega)];omega
   have hp:nv (r++ [0])=nv r:=nv_pad r 1
   have h:=ih (r++ [0]) (Ws_app.2 ⟨hr,Ws_one ⟨by omega,by omega⟩⟩) (by rw [List.length_append];show r.length+1+e=_;omega) (by rw [hp];exact hlt)
   rw [hp] at h
   clear hlt hp ih
   refine Ev.step (fun k=>quot_long.l0.eq_2 ..) ?_
   rw [e1]
   exact Ev.ifp (by omega) (Ev.ifp (by omega) h)
theorem quot_long_c {A B:Int} (hB:0<B) (hAB:B≤A) (hn:2≤(dg B).length) (hA:bl A≤50000000000):Ev (fun k=>quot_long.f k (dg A) (dg B)) (dg (A/B),dg (A%B)):=by
 have hBA:=bl_mono hAB
 have wA:=Wl_dg (n:=A) (by omega)
 have wB:=Wl_dg (n:=B) (by omega)
 have kA:=dg_len_bl A
 have kB:=dg_len_bl B
 have vA:=nv_dg (n:=A) (by omega)
 have vB:=nv_dg (n:=B) (by omega)
 have bp:=bl_pos hB
 have b1:=bl_lt B
 have b2:=bl_le hB
 have b3:=lt_Wp_dg (n:=B) (by omega)
 have b4:=dg_len_lt hB
 have a1:=lt_Wp_dg (n:=A) (by omega)
 obtain ⟨n,hN⟩ : ∃ n,n=(dg B).length:=⟨_,rfl⟩
 obtain ⟨la,hla⟩ : ∃ la,la=(dg A).length:=⟨_,rfl⟩
 rw [← hN] at b3 b4 hn
 rw [← hla] at a1
 have hble:bl B≤64*n:=by rw [Wp_two] at b3;have:=bl_le_of b3;omega
 have hblg:64*(n:Int)≤bl B+63:=by omega
 have hnl:n≤la:=by
  rcases Nat.lt_or_ge la n with h | h
  · exfalso
    have:=Wp_le (show la≤n-1 by omega)
    omega
  · exact h
 obtain ⟨s,hs⟩ : ∃ s:Nat,(s:Int)=64*n-bl B:=⟨(64*(n:Int)-bl B).toNat,by omega⟩
 have hs63:s≤63:=by omega
 have ps:=pow_pos s
 have es:wrap64 (wrap64 (64*((dg B).length:Int))-bl B)=(s:Int):=by
  rw [← hN,w64_id (n:=64*(n:Int)) (by omega) (by omega),w64_id (by omega) (by omega)];omega
 have ES:=Hd.mk es
 clear es
 have hD1:B*2^s<Wp n:=by
  have h:=Int.mul_lt_mul_of_pos_right b1 ps
  rw [← Int.pow_add,show (bl B).toNat+s=64*n by omega,← Wp_two] at h
  exact h
 have hD2:9223372036854775808*Wp (n-1)≤B*2^s:=by
  have h:=Int.mul_le_mul_of_nonneg_right b2 (Int.le_of_lt ps)
  rw [← Int.pow_add,show (bl B-1).toNat+s=63+64*(n-1) by omega,Int.pow_add,← Wp_two] at h
  exact h
 have pn:=Wp_pos (n-1)
 have hlenD:(dg (B*2^s)).length=n:=by
  have h1:=dg_len_le hD1
  have h2:=le_dg_len (n:=B*2^s) (m:=n-1) (by omega)
  omega
 have hDp:0<B*2^s:=Int.mul_pos hB ps
 have vD:=nv_dg (Int.le_of_lt hDp)
 have hAp:0≤A*2^s:=Int.mul_nonneg (by omega) (Int.le_of_lt ps)
 have vAs:=nv_dg hAp
 have hA1:A*2^s<Wp la*2^s:=Int.mul_lt_mul_of_pos_right a1 ps
 have h2s:(2:Int)^s≤2^63:=pow_le_pow hs63
 have hA2:Wp la*2^s≤Wp la*2^63:=Int.mul_le_mul_of_nonneg_left h2s (Int.le_of_lt (Wp_pos la))
 have hlenA:(dg (A*2^s)).length≤la+1:=by
  refine dg_len_le ?_
  rw [Wp_succ]
  have:=Wp_pos la
  omega
 have hWla:Wp la=Wp (n-1)*Wp (la+1-n):=by rw [← Wp_add];congr 1;omega
 have hlt:nv (dg (A*2^s))<nv (dg (B*2^s))*Wp (la+1-n):=by
  rw [vD,vAs]
  have h:=Int.mul_le_mul_of_nonneg_right hD2 (Int.le_of_lt (Wp_pos (la+1-n)))
  rw [Int.mul_assoc,← hWla] at h
  omega
 have htop:9223372036854775808≤rd (dg (B*2^s)) (((dg (B*2^s)).length-1:Nat):Int):=by
  have h1:=nv_take_succ (l:=dg (B*2^s)) (i:=n-1) (by omega)
  rw [List.take_of_length_le (by omega),vD] at h1
  have h2:=nv_lt (Ws_take (dg_Ws (B*2^s)) (n-1))
  rw [List.length_take,hlenD,Nat.min_eq_left (by omega)] at h2
  rw [hlenD]
  have h3:9223372036854775808*Wp (n-1)<(rd (dg (B*2^s)) ((n-1:Nat):Int)+1)*Wp (n-1):=by
   rw [Int.add_mul,Int.one_mul,Int.mul_comm (rd _ _)];omega
  have:=Int.lt_of_mul_lt_mul_right h3 (Int.le_of_lt pn)
  omega
 have hB':=nat_Bits_c wB
 rw [vB] at hB'
 have hS1:=nat_Shl_c wB (by omega) (s:Int)
 have hS2:=nat_Shl_c wA (by omega) (s:Int)
 rw [shn_of (by omega) (by omega),Int.toNat_natCast,vB] at hS1
 rw [shn_of (by omega) (by omega),Int.toNat_natCast,vA] at hS2
 have main:=quot_long_l0 (a:=dg A) (d:=dg (B*2^s)) (by omega) ⟨dg_Ws _,by omega⟩ (by omega) (by omega) htop hs63 (la+1-(dg (A*2^s)).length) (dg (A*2^s)) (dg_Ws _) (by omega) (by rw [hlenD,← hla];exact hlt)
 rw [vD,vAs,Int.mul_ediv_mul_of_pos_left _ _ ps,Int.mul_comm A,Int.mul_comm B,Int.mul_emod_mul_of_pos _ _ ps,Int.mul_ediv_cancel_left _ (by omega),Int.mul_comm _ A,Int.mul_comm _ B] at main
 unfold quot_long.f
 refine Ev.bind hB' ?_
 rw [ES.out]
 exact Ev.bind hS1 (Ev.bind hS2 main)
theorem quot_Div_c {a b:List Int} (ha:Wl a) (hb:Wl b) (hla:a.length≤700000000) :
 Ev (fun k=>quot_Div.f k a b) (if nv b=0 then ([],[],false) else (dg (nv a/nv b),dg (nv a%nv b),true)):=by
 have na:=nv_nonneg ha.1
 have nb:=nv_nonneg hb.1
 have ba:=bl_nv ha.1
 refine Ev.bind (nat_Trim_c ha) (Ev.bind (nat_Trim_c hb) ?_)
 by_cases h0:nv b=0
 · rw [if_pos h0,h0]
   exact Ev.ifp rfl (Ev.same rfl)
 · rw [if_neg h0]
   have hl:((dg (nv b)).length:Int)≠0:=fun h=>h0 ((dg_len_zero nb).1 (by omega))
   have wa:=Wl_dg (n:=nv a) (by omega)
   have wb:Wl (dg (nv b)):=⟨dg_Ws _,by have:=dg_len_nv hb.1;have:=hb.2;omega⟩
   have C:=nat_Cmp_c wa wb
   rw [nv_dg na,nv_dg nb] at C
   refine Ev.ifn hl (Ev.bind C ?_)
   by_cases h1:nv a<nv b
   · rw [cmpI_lt h1,Int.ediv_eq_zero_of_lt na h1,Int.emod_eq_of_lt na h1]
     exact Ev.ifp (by omega) (Ev.same rfl)
   · have hc : ¬ cmpI (nv a) (nv b)<0:=by unfold cmpI;rw [if_neg h1];split<;>omega
     refine Ev.ifn hc ?_
     by_cases h2:((dg (nv b)).length:Int)=1
     · have hb1:nv b<18446744073709551616:=by
        have:=lt_Wp_dg nb
        rw [show (dg (nv b)).length=1 by omega,Wp_succ,Wp_zero] at this
        omega
       have e:dg (nv b)= [nv b]:=by
        rw [dg_pos (by omega),show nv b/18446744073709551616=0 by omega,dg_zero,show nv b%18446744073709551616=nv b by omega]
       have hq:=quot_Word_c wa (d:=nv b) (by omega) hb1
       rw [nv_dg na] at hq
       have hm0:=Int.emod_nonneg (nv a) h0
       have hm1:=Int.emod_lt_of_pos (nv a) (show 0<nv b by omega)
       have er:rd (dg (nv b)) 0=nv b:=by rw [e];rfl
       refine Ev.ifp h2 (Ev.ifp (by omega) ?_)
       rw [er]
       exact Ev.bind hq (Ev.bind (nat_Of_c (x:=nv a%nv b) ⟨hm0,by omega⟩) (Ev.same rfl))
     · exact Ev.ifn h2 (Ev.bind (quot_long_c (by omega) (by omega) (by omega) (by omega)) (Ev.same rfl))
def IsRoot (A r:Int):Prop:=0≤r∧r*r≤A∧A<(r+1)*(r+1)
theorem root_ex {A:Int} (h:0≤A) : ∃ r,IsRoot A r:=by
 obtain ⟨n,rfl⟩:=Int.eq_ofNat_of_zero_le h
 induction n with
 | zero=>exact ⟨0,by omega,by omega,by omega⟩
 | succ n ih =>
   obtain ⟨r,h1,h2,h3⟩:=ih (by omega)
   by_cases h4:(r+1)*(r+1)≤((n+1:Nat):Int)
   · refine ⟨r+1,by omega,h4, ?_⟩
     have:(r+1+1)*(r+1+1)=(r+1)*(r+1)+2*r+3:=by grind
     omega
   · exact ⟨r,h1,by omega,by omega⟩
theorem sq_le {a b:Int} (ha:0≤a) (h:a≤b):a*a≤b*b:=Int.mul_le_mul h h ha (by omega)
theorem le_of_sq {a b:Int} (hb:0≤b) (h:a*a≤b*b):a≤b:=by
 rcases Int.lt_or_le b a with h1 | h1
 · have:=sq_le (a:=b+1) (b:=a) (by omega) (by omega)
   have e:(b+1)*(b+1)=b*b+2*b+1:=by grind
   omega
 · exact h1
theorem lt_of_sq {a b:Int} (hb:0≤b) (h:a*a<b*b):a<b:=by
 rcases Int.lt_or_le a b with h1 | h1
 · exact h1
 · have:=sq_le hb h1
   omega
theorem root_unique {A r s:Int} (h:IsRoot A r) (h':IsRoot A s):r=s:=by
 obtain ⟨a0,a1,a2⟩:=h
 obtain ⟨b0,b1,b2⟩:=h'
 have:=lt_of_sq (a:=r) (b:=s+1) (by omega) (by omega)
 have:=lt_of_sq (a:=s) (b:=r+1) (by omega) (by omega)
 omega
def fx (b:Int):Int:=b/4503599627370496%2048
def fr (b:Int):Int:=b%4503599627370496
def fs (b:Int):Bool:=decide (b≥9223372036854775808)
def sgn (neg:Bool) (b:Int):Int:=if neg then b+9223372036854775808 else b
def fk (b:Int):Int:=if fx b=2047 then (if fr b=0 then 3 else 4) else if fx b=0 then (if fr b=0 then 0 else 1) else 2
def pm (b:Int):Int:=if fx b=0 then fr b else fr b+4503599627370496
def pe (b:Int):Int:=if fx b=0 then -1074 else fx b-1075
def INF:Int:=9218868437227405312
def NAN:Int:=9221120237041090560

theorem mul_cmp {a b c:Int} (h:0<c):(a*c>b*c↔a>b)∧(a*c=b*c↔a=b):=by
 constructor
 · constructor
   · intro h1
     rcases Int.lt_or_le b a with h2 | h2
     · exact h2
     · have:=Int.mul_le_mul_of_nonneg_right h2 (Int.le_of_lt h)
       omega
   · intro h1
     exact Int.mul_lt_mul_of_pos_right h1 h
 · exact ⟨fun h1=>Int.eq_of_mul_eq_mul_right (by omega) h1,fun h1=>by rw [h1]⟩
theorem mod_split (M:Int) {G D:Int} (hG:0<G):M%(G*D)=G*(M/G%D)+M%G:=by
 rw [Int.emod_def M (G*D),← Int.ediv_ediv_of_nonneg (by omega),Int.emod_def (M/G) D,Int.emod_def M G]
 grind

def rnd (M:Int) (d:Nat):Int:=if 2*(M%2^d)>2^d∨(2*(M%2^d)=2^d∧M/2^d%2=1) then M/2^d+1 else M/2^d
theorem rnd_zero (M:Int):rnd M 0=M:=by
 unfold rnd
 rw [Int.pow_zero,Int.ediv_one,Int.emod_one,if_neg (by omega)]
theorem rnd_le (M:Int) (d:Nat):M/2^d≤rnd M d∧rnd M d≤M/2^d+1:=by
 unfold rnd
 split<;>omega
theorem rnd_small {M:Int} {d:Nat} (h0:0≤M) (h:2*M<2^d):rnd M d=0:=by
 unfold rnd
 rw [Int.emod_eq_of_lt h0 (by omega),Int.ediv_eq_zero_of_lt h0 (by omega),if_neg (by omega)]
theorem rnd_exact {M:Int} {d:Nat} (h:M%2^d=0):rnd M d=M/2^d:=by
 have:=pow_pos d
 unfold rnd
 rw [h,if_neg (by omega)]
theorem rnd_scale (M:Int) (d s:Nat):rnd (M*2^s) (d+s)=rnd M d:=by
 have hs:=pow_pos s
 have e1:M*2^s/2^(d+s)=M/2^d:=by
  rw [Int.pow_add,Int.mul_comm M,Int.mul_comm (2^d),Int.mul_ediv_mul_of_pos _ _ hs]
 have e2:M*2^s%2^(d+s)=M%2^d*2^s:=by
  rw [Int.pow_add,Int.mul_comm M,Int.mul_comm (2^d),Int.mul_emod_mul_of_pos _ _ hs,Int.mul_comm]
 have e3:=mul_cmp (a:=2*(M%2^d)) (b:=2^d) hs
 unfold rnd
 rw [e1,e2,← Int.mul_assoc,Int.pow_add]
 simp only [e3.1,e3.2]
theorem bl_ge' {x:Int} {n:Nat} (h:2^n≤x):(n:Int)+1≤bl x:=by
 have:=pow_pos n
 have a1:=bl_lt x
 have:n<(bl x).toNat:=pow_lt_of (by omega)
 omega
theorem bl_shl {m:Int} (h:0<m) (s:Nat):bl (m*2^s)=bl m+s:=by
 have hp:=pow_pos s
 have h1:2^s≤m*2^s:=by
  have:=Int.mul_le_mul_of_nonneg_right (show 1≤m by omega) (Int.le_of_lt hp)
  omega
 rw [bl_shr h1,Int.mul_ediv_cancel _ (by omega)]

def un (m e:Int):Int:=max (bl m+e-53) (-1074)
theorem un_ge (m e:Int) : -1074≤un m e:=by unfold un;omega
theorem un_scale {m:Int} (h:0<m) (e:Int) (s:Nat):un (m*2^s) (e-s)=un m e:=by
 unfold un
 rw [bl_shl h,show bl m+(s:Int)+(e-s)-53=bl m+e-53 by omega]
def ru (m e u:Int):Int:=rnd (m*2^(e-u).toNat) (u-e).toNat
theorem ru_scale (m e u:Int) (s:Nat):ru (m*2^s) (e-s) u=ru m e u:=by
 unfold ru
 rcases Int.lt_or_le u e with h | h
 · obtain ⟨t,ht⟩ : ∃ t:Nat,e-u=t:=⟨(e-u).toNat,by omega⟩
   rw [show (u-e).toNat=0 by omega,rnd_zero,ht,Int.toNat_natCast]
   rcases Nat.lt_or_ge t s with h2 | h2
   · rw [show (e-s-u).toNat=0 by omega,show (u-(e-s)).toNat=0+(s-t) by omega,Int.pow_zero,Int.mul_one]
     have:m*2^s=m*2^t*2^(s-t):=by rw [Int.mul_assoc,← Int.pow_add,show t+(s-t)=s by omega]
     rw [this,rnd_scale,rnd_zero]
   · rw [show (e-s-u).toNat=t-s by omega,show (u-(e-s)).toNat=0 by omega,rnd_zero,Int.mul_assoc,← Int.pow_add,show s+(t-s)=t by omega]
 · rw [show (e-u).toNat=0 by omega,show (e-s-u).toNat=0 by omega,Int.pow_zero,Int.mul_one,Int.mul_one,show (u-(e-s)).toNat=(u-e).toNat+s by omega,rnd_scale]
def Rd (m e:Int):Int:=if m≤0 then 0 else if un m e>971 then INF else (un m e+1074)*4503599627370496+ru m e (un m e)
theorem Rd_zero (e:Int):Rd 0 e=0:=by unfold Rd;rw [if_pos (by omega)]
theorem Rd_scale {m:Int} (h:0<m) (e:Int) (s:Nat):Rd (m*2^s) (e-s)=Rd m e:=by
 have:0<m*2^s:=Int.mul_pos h (pow_pos s)
 unfold Rd
 rw [if_neg (show ¬ m*2^s≤0 by omega),if_neg (show ¬ m≤0 by omega),un_scale h,ru_scale]

theorem le_of_div {X:Int} {g:Nat} (h:1≤X/2^g):2^g≤X:=by
 rw [Int.le_ediv_iff_mul_le (pow_pos g)] at h
 omega
theorem div_of_le {X:Int} {g:Nat} (h:2^g≤X):1≤X/2^g:=by
 rw [Int.le_ediv_iff_mul_le (pow_pos g)]
 omega
theorem un_cell {X Y c:Int} {g:Nat} (hX:0<X) (hY:0<Y) (hq:X/2^g=Y/2^g) (hu:c+g+1≤un X c):un X c=un Y c:=by
 have hp:=pow_pos g
 unfold un at *
 rcases Int.lt_or_le X (2^g) with h | h
 · have e1:X/2^g=0:=Int.ediv_eq_zero_of_lt (by omega) h
   have h2:Y<2^g:=by
    rcases Int.lt_or_le Y (2^g) with h' | h'
    · exact h'
    · have:=div_of_le h'
      omega
   have b1:=bl_le_of h
   have b2:=bl_le_of h2
   omega
 · have h3:=div_of_le h
   rw [hq] at h3
   rw [bl_shr h,bl_shr (le_of_div h3),hq]
theorem half_cmp {G κ H x:Int} (hG:0<G) (h0:0≤x) (h1:x<G):(2*(G*κ+x)>G*(2*H)↔(κ>H∨(κ=H∧x≠0)))∧(2*(G*κ+x)=G*(2*H)↔(κ=H∧x=0)):=by
 rw [show G*(2*H)=2*(G*H) from Int.mul_left_comm ..]
 rcases Int.lt_trichotomy κ H with h | h | h
 · have:=Int.mul_le_mul_of_nonneg_left (show κ+1≤H by omega) (Int.le_of_lt hG)
   rw [Int.mul_add,Int.mul_one] at this
   omega
 · subst h
   omega
 · have:=Int.mul_le_mul_of_nonneg_left (show H+1≤κ by omega) (Int.le_of_lt hG)
   rw [Int.mul_add,Int.mul_one] at this
   omega
theorem rnd_cell {X Y:Int} {d g:Nat} (hgd:g+1≤d) (hq:X/2^g=Y/2^g) (hz:X%2^g=0↔Y%2^g=0):rnd X d=rnd Y d:=by
 obtain ⟨j,rfl⟩ : ∃ j,d=g+(j+1):=⟨d-g-1,by omega⟩
 have hG:=pow_pos g
 have e:(2:Int)^(g+(j+1))=2^g*(2*2^j):=by rw [Int.pow_add,Int.pow_succ,Int.mul_comm (2^j)]
 unfold rnd
 have ex:X/(2^g*(2*2^j))=X/2^g/(2*2^j):=(Int.ediv_ediv_of_nonneg (by omega)).symm
 have ey:Y/(2^g*(2*2^j))=Y/2^g/(2*2^j):=(Int.ediv_ediv_of_nonneg (by omega)).symm
 rw [e,mod_split X hG,mod_split Y hG,ex,ey,hq]
 have hx:=half_cmp (κ:=Y/2^g%(2*2^j)) (H:=2^j) hG (Int.emod_nonneg X (show (2:Int)^g≠0 by omega)) (Int.emod_lt_of_pos X hG)
 have hy:=half_cmp (κ:=Y/2^g%(2*2^j)) (H:=2^j) hG (Int.emod_nonneg Y (show (2:Int)^g≠0 by omega)) (Int.emod_lt_of_pos Y hG)
 simp only [hx.1,hx.2,hy.1,hy.2,ne_eq,hz]
theorem Rd_cell {X Y c:Int} {g:Nat} (hX:0<X) (hY:0<Y) (hq:X/2^g=Y/2^g) (hz:X%2^g=0↔Y%2^g=0) (hu:c+g+1≤un X c):Rd X c=Rd Y c:=by
 have e:=un_cell hX hY hq hu
 unfold Rd
 rw [if_neg (show ¬ X≤0 by omega),if_neg (show ¬ Y≤0 by omega),← e]
 split
 · rfl
 · congr 1
   unfold ru
   rw [show (c-un X c).toNat=0 by omega,Int.pow_zero,Int.mul_one,Int.mul_one]
   exact rnd_cell (g:=g) (by omega) hq hz
def st (M:Int) (s:Nat):Int:=if M%2^s=0 then M/2^s else M/2^s/2*2+1
theorem st_zero (M:Int):st M 0=M:=by unfold st;rw [Int.pow_zero,Int.emod_one,if_pos rfl,Int.ediv_one]
theorem st_nonneg {M:Int} (h:0≤M) (s:Nat):0≤st M s:=by
 have:=Int.ediv_nonneg h (Int.le_of_lt (pow_pos s))
 unfold st
 split<;>omega
theorem st_pos {M:Int} (h:0<M) (s:Nat):0<st M s:=by
 have:=Int.ediv_nonneg (Int.le_of_lt h) (Int.le_of_lt (pow_pos s))
 have hd:=Int.mul_ediv_add_emod M (2^s)
 unfold st
 split
 · rename_i hz
   rcases (show M/2^s=0∨0<M/2^s by omega) with h1 | h1
   · rw [h1,hz,Int.mul_zero] at hd
     omega
   · exact h1
 · omega
theorem st_cell (M:Int) (s:Nat):(st M s*2^s)/2^(s+1)=M/2^(s+1)∧((st M s*2^s)%2^(s+1)=0↔M%2^(s+1)=0):=by
 have hG:=pow_pos s
 have hr:=Int.emod_nonneg M (show (2:Int)^s≠0 by omega)
 have e1:st M s*2^s/2^s=st M s:=Int.mul_ediv_cancel _ (by omega)
 have e2:st M s*2^s%2^s=0:=Int.mul_emod_left ..
 rw [Int.pow_succ,mod_split _ hG,mod_split M hG,← Int.ediv_ediv_of_nonneg (by omega),← Int.ediv_ediv_of_nonneg (by omega),e1,e2]
 have hk : ∀ k:Int,k=0∨k=1→(2^s*k=0↔k=0):=by
  intro k hk
  rcases hk with rfl | rfl
  · simp
  · rw [Int.mul_one];omega
 have k1:=hk (st M s%2) (by omega)
 have k2:=hk (M/2^s%2) (by omega)
 have p2:0≤2^s*(M/2^s%2):=Int.mul_nonneg (by omega) (by omega)
 unfold st at *
 split
 · rename_i hz
   rw [if_pos hz] at k1
   constructor<;>omega
 · rename_i hz
   rw [if_neg hz] at k1
   constructor<;>omega
theorem Rd_st {M e:Int} {s:Nat} (hM:0<M) (hu:e+s+2≤un M e):Rd (st M s) (e+s)=Rd M e:=by
 have h1:=st_pos hM s
 have h2:=st_cell M s
 have h3:=Rd_scale h1 (e+s) s
 rw [show e+(s:Int)-s=e by omega] at h3
 rw [← h3]
 exact (Rd_cell (g:=s+1) hM (Int.mul_pos h1 (pow_pos s)) h2.1.symm h2.2.symm (by omega)).symm

theorem un_q {m e:Int} (h:0<m):0≤m*2^(e-un m e).toNat/2^(un m e-e).toNat∧m*2^(e-un m e).toNat/2^(un m e-e).toNat<9007199254740992∧(un m e= -1074∨4503599627370496≤m*2^(e-un m e).toNat/2^(un m e-e).toNat):=by
 have hu:un m e=max (bl m+e-53) (-1074):=rfl
 have hb:=bl_shl h (e-un m e).toNat
 have hM:0<m*2^(e-un m e).toNat:=Int.mul_pos h (pow_pos _)
 have a1:=bl_lt (m*2^(e-un m e).toNat)
 have a2:=bl_le hM
 have a3:=bl_pos hM
 have hp:=pow_pos (un m e-e).toNat
 generalize un m e=u at *
 generalize m*2^(e-u).toNat=M at *
 have q0:0≤M/2^(u-e).toNat:=Int.ediv_nonneg (by omega) (by omega)
 have q1:M/2^(u-e).toNat<9007199254740992:=by
  rw [Int.ediv_lt_iff_lt_mul hp,show (9007199254740992:Int)=2^53 from rfl,← Int.pow_add]
  have:=pow_le_pow (a:=(bl M).toNat) (b:=53+(u-e).toNat) (by omega)
  omega
 refine ⟨q0,q1, ?_⟩
 rcases (show u= -1074∨u=bl m+e-53 by omega) with h1 | h1
 · exact .inl h1
 · refine .inr ?_
   rw [Int.le_ediv_iff_mul_le hp,show (4503599627370496:Int)=2^52 from rfl,← Int.pow_add]
   have:=pow_le_pow (a:=52+(u-e).toNat) (b:=(bl M-1).toNat) (by omega)
   omega
theorem ru_units {m e:Int} (h:0<m):0≤ru m e (un m e)∧ru m e (un m e)≤9007199254740992∧(un m e= -1074∨4503599627370496≤ru m e (un m e)):=by
 have q:=un_q (e:=e) h
 have r:=rnd_le (m*2^(e-un m e).toNat) (un m e-e).toNat
 unfold ru
 omega
theorem Rd_range (m e:Int):0≤Rd m e∧Rd m e≤INF:=by
 unfold Rd INF
 split
 · omega
 · split
   · omega
   · have:=ru_units (m:=m) (e:=e) (by omega)
     have:=un_ge m e
     omega
theorem Rd_inf {m e:Int} (h:0<m) (he:1024≤e):Rd m e=INF:=by
 have:=bl_pos h
 unfold Rd
 rw [if_neg (by omega),if_pos (by unfold un;omega)]
theorem Rd_none {m e:Int} (h:0≤m) (he:bl m+e < -1074):Rd m e=0:=by
 rcases (show m=0∨0<m by omega) with rfl | h1
 · exact Rd_zero e
 · have hb:=bl_pos h1
   have hu:un m e= -1074:=by unfold un;omega
   have hl:=bl_lt m
   unfold Rd ru
   rw [hu,if_neg (by omega),if_neg (by omega),show (e - -1074).toNat=0 by omega,Int.pow_zero,Int.mul_one]
   obtain ⟨j,hj⟩ : ∃ j:Nat,(-1074-e).toNat=j+1:=⟨(-1074-e).toNat-1,by omega⟩
   have:=pow_le_pow (a:=(bl m).toNat) (b:=j) (by omega)
   rw [hj,rnd_small h (by rw [Int.pow_succ];omega)]
   rfl

def Mk (neg:Bool) (m e:Int):Int × Bool :=
 if m=0 then (sgn neg 0,true) else
  if un m e>971∨m*2^(e-un m e).toNat%2^(un m e-e).toNat≠0 then (0,false) else (sgn neg (Rd m e),true)
theorem Mk_zero (neg:Bool) (e:Int):Mk neg 0 e=(sgn neg 0,true):=by unfold Mk;rw [if_pos rfl]
theorem Mk_no (neg:Bool) {m e:Int} (h:m≠0) (hc:un m e>971∨m*2^(e-un m e).toNat%2^(un m e-e).toNat≠0):Mk neg m e=(0,false):=by
 unfold Mk
 rw [if_neg h,if_pos hc]
theorem Mk_yes (neg:Bool) {m e:Int} (h:m≠0) (h1:un m e≤971) (h2:m*2^(e-un m e).toNat%2^(un m e-e).toNat=0):Mk neg m e=(sgn neg (Rd m e),true):=by
 unfold Mk
 rw [if_neg h,if_neg (by rw [not_or];exact ⟨by omega,fun k=>k h2⟩)]
theorem Rd_exact {m e:Int} (h:0<m) (h1:un m e≤971) (h2:m*2^(e-un m e).toNat%2^(un m e-e).toNat=0):Rd m e=(un m e+1074)*4503599627370496+m*2^(e-un m e).toNat/2^(un m e-e).toNat:=by
 unfold Rd ru
 rw [if_neg (by omega),if_neg (by omega),rnd_exact h2]
theorem un_bl {m e:Int} {n:Nat} (h1:2^n≤m) (h2:m<2^(n+1)):un m e=max ((n:Int)+e-52) (-1074):=by
 unfold un
 rw [bl_eq h1 h2]
 congr 1
 omega
theorem Rd_made {w u:Int} (h0:0<w) (h1:w≤9007199254740992) (hu0 : -1074≤u) (hu1:u≤971) (hw:u= -1074∨4503599627370496≤w) :
 (w<9007199254740992→un w u=u)∧(w=9007199254740992→un w u=u+1)∧(un w u≤971→w*2^(u-un w u).toNat%2^(un w u-u).toNat=0)∧Rd w u=(u+1074)*4503599627370496+w:=by
 have key:(w<9007199254740992→un w u=u)∧(w=9007199254740992→un w u=u+1):=by
  constructor
  · intro h
    rcases Int.lt_or_le w 4503599627370496 with h2 | h2
    · have:=bl_le_of (x:=w) (n:=52) h2
      unfold un
      omega
    · rw [un_bl (n:=52) h2 h]
      omega
  · intro h
    rw [un_bl (n:=53) (by omega) (by omega)]
    omega
 refine ⟨key.1,key.2, ?_⟩
 rcases (show w<9007199254740992∨w=9007199254740992 by omega) with h | h
 · have e:=key.1 h
   rw [e]
   have e2:w*2^(u-u).toNat%2^(u-u).toNat=0:=by
    rw [show (u-u).toNat=0 by omega,Int.pow_zero,Int.emod_one]
   refine ⟨fun _=>e2, ?_⟩
   rw [Rd_exact h0 (by omega) (by rw [e];exact e2),e,show (u-u).toNat=0 by omega,Int.pow_zero,Int.mul_one,Int.ediv_one]
 · have e:=key.2 h
   rw [e]
   have e2:w*2^(u-(u+1)).toNat%2^(u+1-u).toNat=0:=by
    rw [show (u-(u+1)).toNat=0 by omega,show (u+1-u).toNat=1 by omega,h]
    rfl
   refine ⟨fun _=>e2, ?_⟩
   rcases (show u=971∨u+1≤971 by omega) with h3 | h3
   · unfold Rd INF
     rw [if_neg (by omega),if_pos (by omega)]
     omega
   · rw [Rd_exact h0 (by omega) (by rw [e];exact e2),e,show (u-(u+1)).toNat=0 by omega,show (u+1-u).toNat=1 by omega,h]
     simp only [Int.pow_zero,Int.mul_one,Int.pow_one]
     omega
theorem Mk_made {neg:Bool} {w u:Int} (h0:0≤w) (h1:w≤9007199254740992) (hu0 : -1074≤u) (hu1:u≤971) (hw:u= -1074∨4503599627370496≤w) :
 (if (Mk neg w u).2 then (Mk neg w u).1 else sgn neg INF)=sgn neg ((u+1074)*4503599627370496+w):=by
 rcases (show w=0∨0<w by omega) with rfl | h
 · rw [Mk_zero]
   obtain rfl:u= -1074:=by omega
   rfl
 · obtain ⟨k1,k2,k3,k4⟩:=Rd_made h h1 hu0 hu1 hw
   by_cases hc:un w u>971
   · rw [Mk_no neg (by omega) (.inl hc)]
     have hw2:w=9007199254740992:=by omega
     have hu2:u=971:=by omega
     rw [hw2,hu2]
     rfl
   · rw [Mk_yes neg (by omega) (by omega) (k3 (by omega)),k4]
     rfl
theorem Mk_scale (neg:Bool) {m:Int} (h:0<m) (e:Int):Mk neg (m*2) (e-1)=Mk neg m e:=by
 have hu:=un_scale h e 1
 have hR:=Rd_scale h e 1
 rw [Int.pow_one] at hu hR
 rw [show e-((1:Nat):Int)=e-1 from rfl] at hu hR
 have:m*2*2^(e-1-un m e).toNat%2^(un m e-(e-1)).toNat=0↔m*2^(e-un m e).toNat%2^(un m e-e).toNat=0:=by
  generalize un m e=u
  rcases Int.lt_or_le u e with h1 | h1
  · rw [show (u-e).toNat=0 by omega,show (u-(e-1)).toNat=0 by omega,Int.pow_zero,Int.emod_one,Int.emod_one]
  · rw [show (e-u).toNat=0 by omega,show (e-1-u).toNat=0 by omega,show (u-(e-1)).toNat=(u-e).toNat+1 by omega,Int.pow_succ,Int.pow_zero,Int.mul_one,Int.mul_one,Int.mul_comm m,Int.mul_comm (2^_),Int.mul_emod_mul_of_pos _ _ (by omega)]
    omega
 by_cases hc:un m e>971∨m*2^(e-un m e).toNat%2^(un m e-e).toNat≠0
 · rw [Mk_no neg (by omega) hc,Mk_no neg (by omega) (by rw [hu];rcases hc with hc | hc;exact .inl hc;exact .inr (fun k=>hc (this.1 k)))]
 · rw [not_or] at hc
   have h2:m*2^(e-un m e).toNat%2^(un m e-e).toNat=0:=Decidable.byContradiction hc.2
   rw [Mk_yes neg (by omega) (by omega) h2,Mk_yes neg (by omega) (by omega) (by rw [hu];exact this.2 h2),hR]

theorem fx_range {b:Int} :0≤fx b∧fx b<2048:=by unfold fx;omega
theorem fr_range {b:Int} :0≤fr b∧fr b<4503599627370496:=by unfold fr;omega
theorem pm_range (b:Int):0≤pm b∧pm b<9007199254740992:=by
 have:= @fr_range b
 unfold pm
 split<;>omega
theorem pe_range (b:Int) : -1074≤pe b∧pe b≤972∧(fx b≠2047→pe b≤971)∧(pe b= -1074∨4503599627370496≤pm b):=by
 have:= @fx_range b
 have:= @fr_range b
 unfold pe pm
 split<;>omega
theorem fk_eq (b:Int):(fk b=4↔fx b=2047∧fr b≠0)∧(fk b=3↔fx b=2047∧fr b=0)∧(fk b=0↔fx b=0∧fr b=0)∧(fk b=0↔fx b≠2047∧pm b=0)∧0≤fk b∧fk b≤4:=by
 have h2:= @fr_range b
 unfold fk pm
 by_cases c1:fx b=2047
 · rw [if_pos c1]
   by_cases c2:fr b=0
   · rw [if_pos c2];omega
   · rw [if_neg c2];omega
 · rw [if_neg c1]
   by_cases c3:fx b=0
   · rw [if_pos c3,if_pos c3]
     by_cases c2:fr b=0
     · rw [if_pos c2];omega
     · rw [if_neg c2];omega
   · rw [if_neg c3,if_neg c3];omega
theorem fk_fin {b:Int} (h4:fk b≠4) (h3:fk b≠3):fx b≠2047:=by
 have:=fk_eq b
 omega
theorem rd_of_ge {l:List Int} {i:Nat} (h:l.length≤i):rd l (i:Int)=0:=rd_out h
theorem set_word {x:Int} (hx:U x) {b:Nat} (hb:b≤63) (h0:x/2^b%2=0):Go.bits .or .u64 x (2^b)=x+2^b∧U (x+2^b):=by
 obtain ⟨hx0,hx1⟩:=hx
 have hp:=pow_pos b
 have hp1:=pow_pos (b+1)
 have hple:(2:Int)^b≤2^63:=pow_le_pow hb
 have hs:=mod_split x (D:=2) hp
 rw [h0,Int.mul_zero,Int.zero_add] at hs
 rw [show (2:Int)^b*2=2^(b+1) from (Int.pow_succ ..).symm] at hs
 have hd:=Int.mul_ediv_add_emod x (2^(b+1))
 have r0:=Int.emod_nonneg x (show (2:Int)^b≠0 by omega)
 have r1:=Int.emod_lt_of_pos x hp
 rw [hs] at hd
 have hA0:0≤2^(b+1)*(x/2^(b+1)):=Int.mul_nonneg (by omega) (Int.ediv_nonneg hx0 (by omega))
 have hAm:2^(b+1)*(x/2^(b+1))%2^(b+1)=0:=Int.mul_emod_right ..
 have hpp:(2:Int)^(b+1)*2^(63-b)=18446744073709551616:=by rw [← Int.pow_add,show b+1+(63-b)=64 by omega];rfl
 have hq:x/2^(b+1)<2^(63-b):=by rw [Int.ediv_lt_iff_lt_mul hp1,Int.mul_comm,hpp];exact hx1
 have htop:=Int.mul_le_mul_of_nonneg_left (show x/2^(b+1)+1≤2^(63-b) by omega) (Int.le_of_lt hp1)
 rw [hpp,Int.mul_add,Int.mul_one] at htop
 have e2:(2:Int)^(b+1)=2^b*2:=Int.pow_succ ..
 generalize hA:2^(b+1)*(x/2^(b+1))=A at *
 generalize hr:x%2^b=r at *
 have o1:Go.bits .or .u64 A r=A+r:=or_join (b+1) _ _ hA0 hAm (by omega) r0 (by omega) (by omega)
 have o2:Go.bits .or .u64 (2^b) r=2^b+r:=or_join b _ _ (by omega) (Int.emod_self) (by omega) r0 r1 (by omega)
 have o3:Go.bits .or .u64 A (2^b+r)=A+(2^b+r):=or_join (b+1) _ _ hA0 hAm (by omega) (by omega) (by omega) (by omega)
 refine ⟨?_,by unfold U;omega⟩
 obtain ⟨a,ha⟩:=Int.eq_ofNat_of_zero_le hA0
 obtain ⟨c,hc⟩:=Int.eq_ofNat_of_zero_le r0
 obtain ⟨p,hpn⟩:=Int.eq_ofNat_of_zero_le (Int.le_of_lt hp)
 have hor : ∀ u v:Nat,u<2^64→v<2^64→Go.bits .or .u64 (u:Int) (v:Int)=((u ||| v:Nat):Int):=fun u v hu hv=>or_nat u v hu hv
 rw [ha,hc] at o1
 rw [hpn,hc] at o2
 have b1:=hor a c (by omega) (by omega)
 have b2:=hor p c (by omega) (by omega)
 rw [b1] at o1
 rw [b2] at o2
 rw [ha,hpn,hc,← o2,hor a (p ||| c) (by omega) (by omega)] at o3
 rw [show x=A+r by omega,ha,hc,← o1,hpn,hor (a ||| c) p (by omega) (by omega),Nat.or_assoc,Nat.or_comm c p,o3,o1,o2]
 omega
theorem tdiv64 (i:Nat):Int.tdiv (i:Int) 64=((i/64:Nat):Int):=by rw [Int.tdiv_eq_ediv_of_nonneg (by omega)];omega
theorem tmod64 (i:Nat):Int.tmod (i:Int) 64=((i%64:Nat):Int):=by rw [Int.tmod_eq_emod_of_nonneg (by omega)];omega
theorem w64_nat {n:Nat} (h:n≤1000000000000):wrap64 (n:Int)=n:=w64_id (by omega) (by omega)
theorem wu_nat {n:Nat} (h:n≤1000000000000):IntKind.u64.wrap (n:Int)=n:=wu_id (by omega) (by omega)
theorem w64_next {j:Nat} (h:j≤1000000000000):wrap64 ((j:Int)+1)=((j+1:Nat):Int):=by rw [w64_id (by omega) (by omega)];omega
theorem shl_bit {b:Nat} (hb:b≤63):shl .u64 1 (b:Int)=2^b:=by
 have:=pow_le_pow (a:=b) (b:=63) (by omega)
 have:=pow_pos b
 rw [shl_u _ _ (by omega),Int.toNat_natCast,Int.one_mul,Int.emod_eq_of_lt (by omega) (by omega)]
theorem nv_take_more (l:List Int) {i:Nat} (h:l.length≤i):nv (l.take i)=nv l:=by rw [List.take_of_length_le h]
theorem ref04_set_l {a:List Int} (ha:Wl a) {i:Nat} (hi:i≤60000000) (hbit:nv a/2^i%2=0) {n:Nat} (hn:a.length≤n) (hn2:i/64<n) (hn3:n≤1000000000) (d:Nat) : ∀ (j:Nat) (out:List Int),j+d=n→out.length=j→Ws out→nv out=nv (a.take j)+(if i/64<j then 2^i else 0) →
 ∃ r,Ev (fun k=>gr04_set.l0 k a i out (n:Int) j) r∧Ws r∧r.length=n∧nv r=nv a+2^i:=by
 induction d with
 | zero =>
   intro j out hj hlo hwo he
   obtain rfl:j=n:=by omega
   refine ⟨out,Ev.step (fun k=>gr04_set.l0.eq_2 ..) (Ev.ifn (by omega) (Ev.same rfl)),hwo,hlo, ?_⟩
   rw [he,nv_take_more a hn,if_pos hn2]
 | succ d ih =>
   intro j out hj hlo hwo he
   have hx:U (rd a (j:Int)):=U_rd ha.1 _
   have key : ∀ v:Int,U v→v=rd a (j:Int)+(if i/64=j then 2^(i%64) else 0)→ ∃ r,Ev (fun k=>gr04_set.l0 k a i (out++ [v]) (n:Int) ((j+1:Nat):Int)) r∧Ws r∧r.length=n∧nv r=nv a+2^i:=by
    intro v hv hve
    refine ih (j+1) (out++ [v]) (by omega) (by rw [List.length_append,hlo];rfl) (Ws_app.2 ⟨hwo,Ws_one hv⟩) ?_
    rw [nv_snoc,he,nv_take_next,hlo,hve]
    by_cases h1:i/64=j
    · rw [if_pos h1,if_neg (show ¬ i/64<j by omega),if_pos (show i/64<j+1 by omega)]
      have:(2:Int)^i=Wp j*2^(i%64):=by rw [Wp_two,← Int.pow_add,show 64*j+i%64=i by omega]
      rw [this,Int.mul_add]
      omega
    · rw [if_neg h1,Int.add_zero]
      by_cases h2:i/64<j
      · rw [if_pos h2,if_pos (show i/64<j+1 by omega)]
        omega
      · rw [if_neg h2,if_neg (show ¬ i/64<j+1 by omega)]
        omega
   have hbl:=bit_list ha.1 i
   rw [hbit] at hbl
   by_cases hin:j<a.length
   · by_cases h1:i/64=j
     · have hw:=set_word hx (b:=i%64) (by omega) (by rw [← h1];exact hbl.symm)
       obtain ⟨r,hr,hr2⟩:=key _ hw.2 (by rw [if_pos h1])
       refine ⟨r,Ev.step (fun k=>gr04_set.l0.eq_2 ..) (Ev.ifp (by omega) (Ev.ifp (by omega) (Ev.ifp (by omega) ?_))),hr2⟩
       rw [tdiv64,tmod64,w64_nat (by omega),wu_nat (by omega),shl_bit (by omega),hw.1,w64_next (by omega)]
       exact Ev.ifp (by omega) (Ev.ifp (by omega) (Ev.ifp (by omega) hr))
     · obtain ⟨r,hr,hr2⟩:=key (rd a (j:Int)) hx (by rw [if_neg h1];omega)
       refine ⟨r,Ev.step (fun k=>gr04_set.l0.eq_2 ..) (Ev.ifp (by omega) (Ev.ifp (by omega) (Ev.ifp (by omega) ?_))),hr2⟩
       rw [tdiv64,w64_nat (by omega),w64_next (by omega)]
       exact Ev.ifn (by omega) (Ev.ifp (by omega) hr)
   · have hz:=rd_of_ge (l:=a) (i:=j) (by omega)
     by_cases h1:i/64=j
     · have hw:=set_word (x:=0) (by unfold U;omega) (b:=i%64) (by omega) (by rw [Int.zero_ediv];rfl)
       obtain ⟨r,hr,hr2⟩:=key _ hw.2 (by rw [if_pos h1,hz])
       refine ⟨r,Ev.step (fun k=>gr04_set.l0.eq_2 ..) (Ev.ifp (by omega) (Ev.ifn (by omega) ?_)),hr2⟩
       rw [tdiv64,tmod64,w64_nat (by omega),wu_nat (by omega),shl_bit (by omega),hw.1,w64_next (by omega)]
       exact Ev.ifp (by omega) (Ev.ifp (by omega) (Ev.ifp (by omega) hr))
     · obtain ⟨r,hr,hr2⟩:=key 0 (by unfold U;omega) (by rw [if_neg h1,hz];omega)
       refine ⟨r,Ev.step (fun k=>gr04_set.l0.eq_2 ..) (Ev.ifp (by omega) (Ev.ifn (by omega) ?_)),hr2⟩
       rw [tdiv64,w64_nat (by omega),w64_next (by omega)]
       exact Ev.ifn (by omega) (Ev.ifp (by omega) hr)
theorem ref04_set_c {a:List Int} (ha:Wl a) (hla:a.length≤1000000) {i:Nat} (hi:i≤60000000) (hbit:nv a/2^i%2=0) :
 ∃ r,Ev (fun k=>gr04_set.f k a i) r∧Ws r∧r.length=max a.length (i/64+1)∧nv r=nv a+2^i:=by
 have hm:mx (a.length:Int) (wrap64 ((wrap64 (Int.tdiv (i:Int) 64))+1))=((max a.length (i/64+1):Nat):Int):=by
  rw [Int.tdiv_eq_ediv_of_nonneg (by omega),w64_id (n:=(i:Int)/64) (by omega) (by omega),w64_id (by omega) (by omega)]
  unfold mx
  split<;>omega
 have:=ref04_set_l ha hi hbit (n:=max a.length (i/64+1)) (by omega) (by omega) (by omega) (max a.length (i/64+1)) 0 [] (by omega) rfl Ws_nil (by rw [if_neg (by omega)];rfl)
 unfold gr04_set.f
 rw [hm]
 exact this
theorem ref04_Root_l {a:List Int} (ha:Wl a) (hla:a.length≤2000) {R:Int} (hR:IsRoot (nv a) R) (j:Nat) (hj:j≤100000) : ∀ z:List Int,Ws z→z.length≤2000→nv z%2^j=0→nv z≤R→R<nv z+2^j→Ev (fun k=>gr04_Root.l0 k a z ((j:Int)-1)) (dg R):=by
 induction j with
 | zero =>
   intro z hz hlz hm h1 h2
   rw [Int.pow_zero] at h2
   refine Ev.step (fun k=>gr04_Root.l0.eq_2 ..) (Ev.ifn (by omega) ?_)
   have:=ref02_Trim_c (l:=z) ⟨hz,by omega⟩
   rw [show nv z=R by omega] at this
   exact Ev.bind this (Ev.same rfl)
 | succ j ih =>
   intro z hz hlz hm h1 h2
   have hp:=pow_pos j
   have z0:=nv_nonneg hz
   have ej:((j+1:Nat):Int)-1=(j:Int):=by omega
   rw [ej]
   have hm':=Int.mul_ediv_add_emod (nv z) (2^(j+1))
   rw [hm,Int.add_zero,Int.pow_succ,Int.mul_assoc] at hm'
   have hbit:nv z/2^j%2=0:=by
    rw [← hm',Int.mul_ediv_cancel_left _ (by omega)]
    exact Int.mul_emod_right ..
   have hm3:nv z%2^j=0:=by
    rw [← hm']
    exact Int.mul_emod_right ..
   refine Ev.step (fun k=>gr04_Root.l0.eq_2 ..) (Ev.ifp (by omega) ?_)
   obtain ⟨r,hr,hrw,hrl,hrn⟩:=ref04_set_c (a:=z) ⟨hz,by omega⟩ (by omega) (i:=j) (by omega) hbit
   have hrl2:r.length≤2000:=by omega
   refine Ev.bind hr ?_
   have M:=ref03_Mul_c (a:=r) (b:=r) ⟨hrw,by omega⟩ ⟨hrw,by omega⟩ (by omega) (by omega)
   have r0:=nv_nonneg hrw
   have brr:=bl_mul r0 r0
   have br:=bl_nv hrw
   refine Ev.bind M ?_
   have C:=ref02_Cmp_c (a:=dg (nv r*nv r)) (b:=a) (Wl_dg (by omega)) ha
   rw [nv_dg (Int.mul_nonneg r0 r0)] at C
   refine Ev.bind C ?_
   rw [w64_id (by omega) (by omega)]
   rw [Int.pow_succ] at h2
   by_cases hc:cmpI (nv r*nv r) (nv a)≤0
   · refine Ev.ifp hc ?_
     have hle:nv r*nv r≤nv a:=by
      unfold cmpI at hc
      split at hc
      · omega
      · split at hc
        · omega
        · omega
     have hlt:nv r<R+1:=lt_of_sq (by have:=hR.1;omega) (by have:=hR.2.2;omega)
     refine ih (by omega) r hrw hrl2 ?_ (by omega) (by omega)
     rw [hrn,Int.add_emod_right]
     exact hm3
   · refine Ev.ifn hc ?_
     have hgt:nv a<nv r*nv r:=by
      unfold cmpI at hc
      split at hc
      · omega
      · split at hc
        · assumption
        · omega
     have hlt:R<nv r:=lt_of_sq r0 (by have:=hR.2.1;omega)
     exact ih (by omega) z hz hlz hm3 h1 (by omega)
theorem ref04_Root_c {a:List Int} (ha:Wl a) (hla:a.length≤1000) {R:Int} (hR:IsRoot (nv a) R):Ev (fun k=>gr04_Root.f k a) (dg R):=by
 have h0:=nv_nonneg ha.1
 have hb:=bl_nv ha.1
 have hb0:=bl_nonneg (nv a)
 refine Ev.bind (ref02_Bits_c ha) ?_
 obtain ⟨n,hn⟩ : ∃ n:Nat,bl (nv a)=n:=⟨(bl (nv a)).toNat,by omega⟩
 have e:wrap64 (Int.tdiv (wrap64 (bl (nv a)+1)) 2)=(((n+1)/2+1:Nat):Int)-1:=by
  rw [w64_id (n:=bl (nv a)+1) (by omega) (by omega),Int.tdiv_eq_ediv_of_nonneg (by omega),w64_id (by omega) (by omega)]
  omega
 rw [e]
 refine ref04_Root_l ha (by omega) hR ((n+1)/2+1) (by omega) [] Ws_nil (by simp) (by rfl) hR.1 ?_
 have l:=bl_lt (nv a)
 rw [hn,Int.toNat_natCast] at l
 have hp:=pow_pos ((n+1)/2+1)
 show R<0+2^((n+1)/2+1)
 have:R<2^((n+1)/2+1):=by
  refine lt_of_sq (by omega) ?_
  rw [← Int.pow_add]
  have:=pow_le_pow (a:=n) (b:=(n+1)/2+1+((n+1)/2+1)) (by omega)
  have:=hR.2.1
  omega
 omega
def gc (a b:Int):Int:=(Nat.gcd a.toNat b.toNat:Nat)
theorem gc_nat (a b:Nat):gc a b=(Nat.gcd a b:Nat):=by unfold gc;rw [Int.toNat_natCast,Int.toNat_natCast]
theorem gc_nonneg (a b:Int):0≤gc a b:=by unfold gc;omega
theorem gc_comm (a b:Int):gc a b=gc b a:=by unfold gc;rw [Nat.gcd_comm]
theorem gc_zero {a:Int} (h:0≤a):gc a 0=a:=by
 obtain ⟨A,rfl⟩:=Int.eq_ofNat_of_zero_le h
 have:=gc_nat A 0
 rw [Nat.gcd_zero_right] at this
 exact this
theorem gc_one {a:Int} (h:0≤a):gc a 1=1:=by
 obtain ⟨A,rfl⟩:=Int.eq_ofNat_of_zero_le h
 have:=gc_nat A 1
 rw [Nat.gcd_one_right] at this
 exact this
theorem gc_mod {a b:Int} (ha:0≤a) (hb:0≤b):gc b (a%b)=gc a b:=by
 obtain ⟨A,rfl⟩:=Int.eq_ofNat_of_zero_le ha
 obtain ⟨B,rfl⟩:=Int.eq_ofNat_of_zero_le hb
 rw [← Int.natCast_emod,gc_nat,gc_nat,Nat.gcd_comm A B,Nat.gcd_rec B A,Nat.gcd_comm]
theorem gc_sub {x y:Int} (hy:0≤y) (h:y≤x):gc (x-y) y=gc x y:=by
 obtain ⟨X,rfl⟩:=Int.eq_ofNat_of_zero_le (show 0≤x by omega)
 obtain ⟨Y,rfl⟩:=Int.eq_ofNat_of_zero_le hy
 rw [show (X:Int)-Y=((X-Y:Nat):Int) by omega,gc_nat,gc_nat,Nat.gcd_sub_self_left (by omega)]
theorem gc_mul {x y c:Int} (hx:0≤x) (hy:0≤y) (hc:0≤c):gc (x*c) (y*c)=gc x y*c:=by
 obtain ⟨X,rfl⟩:=Int.eq_ofNat_of_zero_le hx
 obtain ⟨Y,rfl⟩:=Int.eq_ofNat_of_zero_le hy
 obtain ⟨C,rfl⟩:=Int.eq_ofNat_of_zero_le hc
 rw [← Int.natCast_mul,← Int.natCast_mul,gc_nat,gc_nat,Nat.gcd_mul_right,Int.natCast_mul]
theorem gc_odd {x y:Int} (hx:0≤x) (hy:0≤y) (ho:y%2=1) (t:Nat):gc (x*2^t) y=gc x y:=by
 obtain ⟨X,rfl⟩:=Int.eq_ofNat_of_zero_le hx
 obtain ⟨Y,rfl⟩:=Int.eq_ofNat_of_zero_le hy
 have e:(X:Int)*2^t=((X*2^t:Nat):Int):=by rw [Int.natCast_mul,Int.natCast_pow];rfl
 have hc:Nat.Coprime (2^t) Y:=by
  refine Nat.Coprime.pow_left t ?_
  have:Nat.gcd 2 Y=Nat.gcd (Y%2) 2:=Nat.gcd_rec 2 Y
  rw [show Y%2=1 by omega,Nat.gcd_one_left] at this
  exact this
 rw [e,gc_nat,gc_nat,Nat.Coprime.gcd_mul_right_cancel X hc]
theorem gc_halves {x y:Int} (hx:0≤x) (hy:0≤y) (hox:x%2=1) (hoy:y%2=1) (i j:Nat):gc (x*2^i) (y*2^j)=gc x y*2^(min i j):=by
 have key : ∀ (x y:Int) (i j:Nat),0≤x→0≤y→x%2=1→i≤j→gc (x*2^i) (y*2^j)=gc x y*2^i:=by
  intro x y i j hx hy hox hij
  have e:y*2^j=y*2^(j-i)*2^i:=by rw [Int.mul_assoc,← Int.pow_add,show j-i+i=j by omega]
  have hp:=pow_pos i
  have hp2:=pow_pos (j-i)
  rw [e,gc_mul hx (Int.mul_nonneg hy (by omega)) (by omega),gc_comm x,gc_odd hy hx hox,gc_comm y]
 rcases Nat.le_total i j with h | h
 · rw [key x y i j hx hy hox h,Nat.min_eq_left h]
 · rw [gc_comm,key y x j i hy hx hoy h,Nat.min_eq_right h,gc_comm]
theorem gc_pos {a b:Int} (h:0<a∨0<b):0<gc a b:=by
 unfold gc
 have:0<Nat.gcd a.toNat b.toNat:=by
  rcases h with h | h
  · exact Nat.gcd_pos_of_pos_left _ (by omega)
  · exact Nat.gcd_pos_of_pos_right _ (by omega)
 omega
theorem gc_split {a b:Int} (ha:0≤a) (hb:0≤b):a/gc a b*gc a b=a∧b/gc a b*gc a b=b:=by
 obtain ⟨A,rfl⟩:=Int.eq_ofNat_of_zero_le ha
 obtain ⟨B,rfl⟩:=Int.eq_ofNat_of_zero_le hb
 rw [gc_nat]
 have h1:=Nat.div_mul_cancel (Nat.gcd_dvd_left A B)
 have h2:=Nat.div_mul_cancel (Nat.gcd_dvd_right A B)
 exact ⟨by exact_mod_cast h1,by exact_mod_cast h2⟩
theorem gc_self {a:Int} (h:0≤a):gc a a=a:=by
 obtain ⟨A,rfl⟩:=Int.eq_ofNat_of_zero_le h
 rw [gc_nat,Nat.gcd_self]
theorem gc_reduced {a b:Int} (ha:0≤a) (hb:0≤b) (h:0<a∨0<b):gc (a/gc a b) (b/gc a b)=1:=by
 have hg:=gc_pos h
 have hs:=gc_split ha hb
 have h1:0≤a/gc a b:=Int.ediv_nonneg ha (by omega)
 have h2:0≤b/gc a b:=Int.ediv_nonneg hb (by omega)
 have hm:=gc_mul h1 h2 (gc_nonneg a b)
 rw [hs.1,hs.2] at hm
 have:1*gc a b=gc (a/gc a b) (b/gc a b)*gc a b:=by rw [Int.one_mul];exact hm
 exact (Int.eq_of_mul_eq_mul_right (by omega) this).symm
theorem lowest_eq {p q p' q':Int} (hp:0≤p) (hq:0<q) (hp':0≤p') (hq':0<q') (h:p*q'=p'*q):p/gc p q=p'/gc p' q'∧q/gc p q=q'/gc p' q':=by
 have key : ∀ (a b a' b':Nat),Nat.gcd a b=1→Nat.gcd a' b'=1→0<b→0<b'→a*b'=a'*b→a=a'∧b=b':=by
  intro a b a' b' h1 h2 hb hb' he
  have d1:b∣b':=by
   have:b∣a*b':=⟨a',by rw [he,Nat.mul_comm]⟩
   exact Nat.Coprime.dvd_of_dvd_mul_left (Nat.Coprime.symm h1) this
  have d2:b'∣b:=by
   have:b'∣a'*b:=⟨a,by rw [← he,Nat.mul_comm]⟩
   exact Nat.Coprime.dvd_of_dvd_mul_left (Nat.Coprime.symm h2) this
  have hbb:b=b':=Nat.dvd_antisymm d1 d2
  subst hbb
  exact ⟨Nat.eq_of_mul_eq_mul_right hb he,rfl⟩
 have g1:=gc_pos (a:=p) (b:=q) (.inr hq)
 have g2:=gc_pos (a:=p') (b:=q') (.inr hq')
 have s1:=gc_split hp (Int.le_of_lt hq)
 have s2:=gc_split hp' (Int.le_of_lt hq')
 have r1:=gc_reduced hp (Int.le_of_lt hq) (.inr hq)
 have r2:=gc_reduced hp' (Int.le_of_lt hq') (.inr hq')
 have a0:0≤p/gc p q:=Int.ediv_nonneg hp (by omega)
 have b0:0≤q/gc p q:=Int.ediv_nonneg (by omega) (by omega)
 have a0':0≤p'/gc p' q':=Int.ediv_nonneg hp' (by omega)
 have b0':0≤q'/gc p' q':=Int.ediv_nonneg (by omega) (by omega)
 have bp:q/gc p q≠0:=by
  intro hz
  rw [hz,Int.zero_mul] at s1
  omega
 have bp':q'/gc p' q'≠0:=by
  intro hz
  rw [hz,Int.zero_mul] at s2
  omega
 generalize p/gc p q=a at *
 generalize q/gc p q=b at *
 generalize p'/gc p' q'=a' at *
 generalize q'/gc p' q'=b' at *
 generalize gc p q=g at *
 generalize gc p' q'=g' at *
 have he:a*b'=a'*b:=by
  have h1:(a*b')*(g*g')=(a'*b)*(g*g'):=by
   have e1:(a*b')*(g*g')=(a*g)*(b'*g'):=by grind
   have e2:(a'*b)*(g*g')=(a'*g')*(b*g):=by grind
   rw [e1,e2,s1.1,s1.2,s2.1,s2.2]
   exact h
  have:=Int.mul_pos g1 g2
  exact Int.eq_of_mul_eq_mul_right (by omega) h1
 obtain ⟨A,rfl⟩:=Int.eq_ofNat_of_zero_le a0
 obtain ⟨B,rfl⟩:=Int.eq_ofNat_of_zero_le b0
 obtain ⟨A',rfl⟩:=Int.eq_ofNat_of_zero_le a0'
 obtain ⟨B',rfl⟩:=Int.eq_ofNat_of_zero_le b0'
 rw [gc_nat] at r1 r2
 have:=key A B A' B' (by exact_mod_cast r1) (by exact_mod_cast r2) (by omega) (by omega) (by exact_mod_cast he)
 exact ⟨by rw [this.1],by rw [this.2]⟩
theorem gcd_words_l (n:Nat) : ∀ x y:Int,y.toNat≤n→0≤x→0≤y→Ev (fun k=>gcd_words.l0 k x y) (gc x y):=by
 induction n with
 | zero =>
   intro x y hn h0 h1
   obtain rfl:y=0:=by omega
   exact Ev.step (fun k=>gcd_words.l0.eq_2 ..) (Ev.ifp rfl (Ev.same (by rw [gc_zero h0])))
 | succ n ih =>
   intro x y hn h0 h1
   refine Ev.step (fun k=>gcd_words.l0.eq_2 ..) ?_
   by_cases hy:y=0
   · exact Ev.ifp hy (Ev.same (by rw [hy,gc_zero h0]))
   · refine Ev.ifn hy ?_
     rw [Int.tmod_eq_emod_of_nonneg h0,← gc_mod h0 h1]
     have r0:=Int.emod_nonneg x hy
     have r1:=Int.emod_lt_of_pos x (show 0<y by omega)
     exact ih y (x%y) (by omega) h1 r0
theorem gc_le_right {x y:Int} (hx:0≤x) (hy:0<y):gc x y≤y:=by
 have s:=gc_split hx (Int.le_of_lt hy)
 have g:=gc_nonneg x y
 have hq:0<y/gc x y:=by
  have:=Int.ediv_nonneg (Int.le_of_lt hy) g
  rcases (show y/gc x y=0∨0<y/gc x y by omega) with h | h
  · rw [h,Int.zero_mul] at s
    omega
  · exact h
 have:=Int.mul_le_mul_of_nonneg_right (show 1≤y/gc x y by omega) g
 rw [s.2] at this
 omega
theorem gcd_Gcd_l (n:Nat) : ∀ A B:Int,B.toNat≤n→0≤A→0≤B→bl A≤640000000→bl B≤640000000→Ev (fun k=>gcd_Gcd.l0 k (dg A) (dg B)) (dg (gc A B)):=by
 have low : ∀ A B:Int,0≤A→0≤B→bl A≤640000000→bl B≤640000000→ ¬ ((dg B).length:Int)>1→Ev (fun k=>gcd_Gcd.l0 k (dg A) (dg B)) (dg (gc A B)):=by
  intro A B hA hB bA bB hl
  have wA:Wl (dg A):=Wl_dg (by omega)
  have wB:Wl (dg B):=Wl_dg (by omega)
  have hlt:=lt_Wp_dg hB
  have hle:=Wp_le (show (dg B).length≤1 by omega)
  have hW:Wp 1=18446744073709551616:=by decide
  have hB1:B<18446744073709551616:=by omega
  have N:=nat_Word_c wB
  rw [nv_dg hB,if_pos hB1] at N
  refine Ev.step (fun k=>gcd_Gcd.l0.eq_2 ..) (Ev.ifn hl (Ev.bind N ?_))
  by_cases hz:B=0
  · refine Ev.ifp hz (Ev.same ?_)
    rw [hz,gc_zero hA]
  · have D:=quot_Word_c wA (d:=B) (by omega) hB1
    rw [nv_dg hA] at D
    have r0:=Int.emod_nonneg A hz
    have r1:=Int.emod_lt_of_pos A (show 0<B by omega)
    have W:=gcd_words_l (A%B).toNat B (A%B) (Nat.le_refl _) hB r0
    rw [gc_mod hA hB] at W
    have g0:=gc_nonneg A B
    have g1:=gc_le_right hA (show 0<B by omega)
    exact Ev.ifn hz (Ev.bind D (Ev.bind W (Ev.bind (nat_Of_c (x:=gc A B) ⟨g0,by omega⟩) (Ev.same rfl))))
 induction n with
 | zero =>
   intro A B hn hA hB bA bB
   obtain rfl:B=0:=by omega
   exact low A 0 hA hB bA bB (by rw [dg_zero];simp)
 | succ n ih =>
   intro A B hn hA hB bA bB
   by_cases hl:((dg B).length:Int)>1
   · have hz:B≠0:=fun k=>by rw [k,dg_zero] at hl;simp at hl
     have wA:Wl (dg A):=Wl_dg (by omega)
     have wB:Wl (dg B):=Wl_dg (by omega)
     have lA:=dg_len_bl A
     have D:=quot_Div_c wA wB (by omega)
     rw [nv_dg hA,nv_dg hB,if_neg hz] at D
     have r0:=Int.emod_nonneg A hz
     have r1:=Int.emod_lt_of_pos A (show 0<B by omega)
     have br:=bl_mono (show A%B≤B by omega)
     refine Ev.step (fun k=>gcd_Gcd.l0.eq_2 ..) (Ev.ifp hl (Ev.bind D ?_))
     rw [← gc_mod hA hB]
     exact ih B (A%B) (by omega) hB r0 bB (by omega)
   · exact low A B hA hB bA bB hl
theorem gcd_Gcd_c {a b:List Int} (ha:Wl a) (hb:Wl b) (hla:a.length≤10000000) (hlb:b.length≤10000000):Ev (fun k=>gcd_Gcd.f k a b) (dg (gc (nv a) (nv b))):=by
 have ba:=bl_nv ha.1
 have bb:=bl_nv hb.1
 exact Ev.bind (nat_Trim_c ha) (Ev.bind (nat_Trim_c hb) (gcd_Gcd_l (nv b).toNat (nv a) (nv b) (Nat.le_refl _) (nv_nonneg ha.1) (nv_nonneg hb.1) (by omega) (by omega)))
theorem bl_gc {a b:Int} (ha:0≤a) (hb:0≤b) {m:Int} (h1:bl a≤m) (h2:bl b≤m):bl (gc a b)≤m:=by
 rcases (show b=0∨0<b by omega) with h | h
 · rw [h,gc_zero ha];exact h1
 · have:=bl_mono (gc_le_right ha h)
   omega
theorem gcd_Reduce_c {a b:List Int} (ha:Wl a) (hb:Wl b) (hla:a.length≤10000000) (hlb:b.length≤10000000):Ev (fun k=>gcd_Reduce.f k a b) (dg (nv a/gc (nv a) (nv b)),dg (nv b/gc (nv a) (nv b))):=by
 have na:=nv_nonneg ha.1
 have nb:=nv_nonneg hb.1
 have ba:=bl_nv ha.1
 have bb:=bl_nv hb.1
 refine Ev.bind (gcd_Gcd_c ha hb hla hlb) ?_
 have g0:=gc_nonneg (nv a) (nv b)
 have bg:=bl_gc na nb (m:=640000000) (by omega) (by omega)
 have wg:Wl (dg (gc (nv a) (nv b))):=Wl_dg (by omega)
 by_cases hz:gc (nv a) (nv b)=0
 · rw [hz,Int.ediv_zero,Int.ediv_zero]
   exact Ev.ifp rfl (Ev.same rfl)
 · refine Ev.ifn (fun k=>hz ((dg_len_zero g0).1 (by omega))) ?_
   have D1:=quot_Div_c ha wg (by omega)
   have D2:=quot_Div_c hb wg (by omega)
   rw [nv_dg g0,if_neg hz] at D1 D2
   exact Ev.bind D1 (Ev.bind D2 (Ev.same rfl))
theorem gcd_Coprime_c {a b:List Int} (ha:Wl a) (hb:Wl b) (hla:a.length≤10000000) (hlb:b.length≤10000000):Ev (fun k=>gcd_Coprime.f k a b) (decide (gc (nv a) (nv b)=1)):=by
 have na:=nv_nonneg ha.1
 have nb:=nv_nonneg hb.1
 have ba:=bl_nv ha.1
 have bb:=bl_nv hb.1
 have g0:=gc_nonneg (nv a) (nv b)
 have bg:=bl_gc na nb (m:=640000000) (by omega) (by omega)
 have C:=nat_Cmp_c (a:=dg (gc (nv a) (nv b))) (b:=dg 1) (Wl_dg (by omega)) (Wl_dg (by decide))
 rw [nv_dg g0,nv_dg (by omega)] at C
 refine Ev.bind (gcd_Gcd_c ha hb hla hlb) (Ev.bind (nat_Of_c (x:=1) ⟨by omega,by omega⟩) (Ev.bind C (Ev.same ?_)))
 congr 1
 by_cases h:gc (nv a) (nv b)=1
 · rw [h];rfl
 · rw [decide_eq_false h,beq_eq_false_iff_ne]
   unfold cmpI
   split
   · omega
   · split<;>omega
theorem one_word {l:List Int} (h:Ws l) (h1:(dg (nv l)).length=1):0<l.length∧rd l 0=nv l∧0<nv l∧nv l<18446744073709551616:=by
 have h0:=nv_nonneg h
 have hlt:=lt_Wp_dg h0
 rw [h1] at hlt
 have hW:Wp 1=18446744073709551616:=by decide
 rw [hW] at hlt
 have hne:nv l≠0:=fun k=>by rw [k] at h1;cases h1
 cases l with
 | nil=>exact absurd rfl hne
 | cons x l =>
   have hx:=Ws_cons.1 h
   have hn:=nv_nonneg hx.2
   have hU:=hx.1
   unfold U at hU
   rw [nv_cons] at hlt hne h0 ⊢
   refine ⟨by simp, ?_,by omega,hlt⟩
   show x=_
   omega
theorem tz_split {x:Int} (h:0<x) : ∃ n:Nat,tz x=n∧x=x/2^n*2^n∧x/2^n%2=1:=by
 obtain ⟨n,h1,h2,h3⟩:=tz_spec h
 refine ⟨n,h1, ?_,h2⟩
 have key : ∀ j:Nat,j≤n→x%2^j=0:=by
  intro j
  induction j with
  | zero=>intro _;rw [Int.pow_zero,Int.emod_one]
  | succ j ih =>
    intro hj
    rw [Int.pow_succ,mod_split x (pow_pos j),h3 j (by omega),ih (by omega)]
    simp
 have hd:=Int.mul_ediv_add_emod x (2^n)
 rw [key n (Nat.le_refl _),Int.add_zero,Int.mul_comm] at hd
 exact hd.symm
theorem ref05_Gcd_l0 (n:Nat) : ∀ x y:Int,y.toNat≤n→0<x→0≤y→x<18446744073709551616→y<18446744073709551616→Ev (fun k=>gr05_Gcd.l0 k x y) [gc x y]:=by
 induction n with
 | zero =>
   intro x y hn h0 h1 h2 h3
   obtain rfl:y=0:=by omega
   refine Ev.step (fun k=>gr05_Gcd.l0.eq_2 ..) (Ev.ifn (by omega) (Ev.same ?_))
   rw [gc_zero (by omega)]
 | succ n ih =>
   intro x y hn h0 h1 h2 h3
   refine Ev.step (fun k=>gr05_Gcd.l0.eq_2 ..) ?_
   by_cases hy:y>0
   · refine Ev.ifp hy (Ev.ifn (by omega) ?_)
     rw [Int.tmod_eq_emod_of_nonneg (by omega)]
     have r0:=Int.emod_nonneg x (show y≠0 by omega)
     have r1:=Int.emod_lt_of_pos x hy
     rw [← gc_mod (by omega) h1]
     exact ih y (x%y) (by omega) hy r0 h3 (by omega)
   · obtain rfl:y=0:=by omega
     refine Ev.ifn (by omega) (Ev.same ?_)
     rw [gc_zero (by omega)]
theorem ref05_half {x:Int} (h:0<x) (hb:bl x≤6400000):Ev (fun k=>gr02_Even.f k (dg x)) (tz x)∧ ∃ n:Nat,tz x=n∧n≤6400000∧x=x/2^n*2^n∧x/2^n%2=1∧0<x/2^n∧x/2^n≤x∧Ev (fun k=>gr02_Shr.f k (dg x) (n:Int)) (dg (x/2^n)):=by
 have w:Wl (dg x):=Wl_dg (by omega)
 have E:=ref02_Even_c w
 rw [nv_dg (by omega)] at E
 obtain ⟨n,h1,h2,h3⟩:=tz_split h
 have hlt:=tz_lt h
 have S:=ref02_Shr_c w (n:=(n:Int)) (by omega)
 rw [nv_dg (by omega),Int.toNat_natCast] at S
 have hp:=pow_pos n
 have q0:0≤x/2^n:=Int.ediv_nonneg (by omega) (by omega)
 have q1:x/2^n≤x:=Int.ediv_le_self _ (by omega)
 exact ⟨E,n,h1,by omega,h2,h3,by omega,q1,S⟩
theorem ref05_Gcd_l1 {c:Int} (hc0:0≤c) (hc:c≤64000) (n:Nat) : ∀ x y:Int,(x+y).toNat≤n→0<x→0<y→x%2=1→y%2=1→bl x≤6400000→bl y≤6400000→Ev (fun k=>gr05_Gcd.l1 k c (dg x) (dg y)) (dg (gc x y*2^c.toNat)):=by
 induction n with
 | zero=>intro x y hn h0 h1;omega
 | succ n ih =>
   intro x y hn h0 h1 ho1 ho2 hb1 hb2
   have wx:Wl (dg x):=Wl_dg (by omega)
   have wy:Wl (dg y):=Wl_dg (by omega)
   have lx:=dg_len_bl x
   have ly:=dg_len_bl y
   have C:=ref02_Cmp_c wx wy
   rw [nv_dg (by omega),nv_dg (by omega)] at C
   refine Ev.step (fun k=>gr05_Gcd.l1.eq_2 ..) (Ev.bind C ?_)
   have more : ∀ u v:Int,0<u→0<v→u%2=1→v%2=1→bl u≤6400000→bl v≤6400000→v<u→(u+v).toNat≤n+1 →
    Ev (fun k=>(gr02_Sub.f k (dg u) (dg v)).bind fun t=>(gr02_Even.f k t).bind fun s=>(gr02_Shr.f k t s).bind fun z=>gr05_Gcd.l1 k c z (dg v)) (dg (gc u v*2^c.toNat)):=by
    intro u v hu hv hou hov hbu hbv hlt hs
    have wu:Wl (dg u):=Wl_dg (by omega)
    have wv:Wl (dg v):=Wl_dg (by omega)
    have lu:=dg_len_bl u
    have lv:=dg_len_bl v
    have D:=ref02_Sub_c wu wv (by omega) (by omega) (by rw [nv_dg (by omega),nv_dg (by omega)];omega)
    rw [nv_dg (by omega),nv_dg (by omega)] at D
    have bd:=bl_mono (show u-v≤u by omega)
    obtain ⟨E,m,hm1,hm2,hm3,hm4,hm5,hm6,S⟩:=ref05_half (x:=u-v) (by omega) (by omega)
    rw [hm1] at E
    refine Ev.bind D (Ev.bind E (Ev.bind S ?_))
    have bq:=bl_mono hm6
    have g1:gc u v=gc ((u-v)/2^m) v:=by
     rw [← gc_sub (by omega) (show v≤u by omega)]
     conv=>lhs;rw [hm3]
     exact gc_odd (by omega) (by omega) hov m
    rw [g1]
    exact ih _ v (by omega) hm5 hv hm4 hov (by omega) hbv
   by_cases he:x=y
   · refine Ev.ifp (by unfold cmpI;rw [if_neg (by omega),if_neg (by omega)]) ?_
     have S:=ref02_Shl_c wx (by omega) c
     rw [nv_dg (by omega),shn_of hc0 (by omega)] at S
     refine Ev.bind S (Ev.same ?_)
     rw [← he,gc_self (by omega)]
   · by_cases hlt:x<y
     · refine Ev.ifn (by unfold cmpI;rw [if_pos hlt];omega) (Ev.ifp (by unfold cmpI;rw [if_pos hlt];omega) ?_)
       rw [gc_comm]
       exact more y x h1 h0 ho2 ho1 hb2 hb1 hlt (by omega)
     · have hcm:cmpI x y=1:=by unfold cmpI;rw [if_neg hlt,if_pos (by omega)]
       refine Ev.ifn (by rw [hcm];omega) (Ev.ifn (by rw [hcm];omega) ?_)
       exact more x y h0 h1 ho1 ho2 hb1 hb2 (by omega) (by omega)
theorem ref05_Gcd_B {a b:List Int} (ha:Wl a) (hb:Wl b) (hla:a.length≤100000) (hlb:b.length≤100000) (ht:0<nv b→tz (nv b)≤64000):Ev (fun k=>gr05_Gcd.f k a b) (dg (gc (nv a) (nv b))):=by
 have hA0:=nv_nonneg ha.1
 have hB0:=nv_nonneg hb.1
 have ba:=bl_nv ha.1
 have bb:=bl_nv hb.1
 refine Ev.bind (ref02_Size_c ha) ?_
 by_cases hza:nv a=0
 · refine Ev.ifp (by rw [hza];rfl) (Ev.bind (ref02_Trim_c hb) (Ev.same ?_))
   rw [hza,gc_comm,gc_zero hB0]
 · refine Ev.ifn (fun k=>hza ((dg_len_zero hA0).1 (by omega))) (Ev.bind (ref02_Size_c hb) ?_)
   by_cases hzb:nv b=0
   · refine Ev.ifp (by rw [hzb];rfl) (Ev.bind (ref02_Trim_c ha) (Ev.same ?_))
     rw [hzb,gc_zero hA0]
   · refine Ev.ifn (fun k=>hzb ((dg_len_zero hB0).1 (by omega))) (Ev.bind (ref02_Size_c ha) ?_)
     have long:Ev (fun k=>gr05_Gcd.j0 k a b false) (dg (gc (nv a) (nv b))):=by
      refine Ev.step (fun k=>gr05_Gcd.j0.eq_2 ..) (Ev.ifn (by decide) ?_)
      obtain ⟨n,n1,n2,n3⟩:=tz_split (show 0<nv a by omega)
      obtain ⟨m,m1,m2,m3⟩:=tz_split (show 0<nv b by omega)
      have tn:=tz_lt (show 0<nv a by omega)
      have tm:=tz_lt (show 0<nv b by omega)
      have Ea:=ref02_Even_c ha
      have Eb:=ref02_Even_c hb
      rw [n1] at Ea tn
      have ht:=ht (by omega)
      rw [m1] at Eb tm ht
      have Sa:=ref02_Shr_c ha (n:=(n:Int)) (by omega)
      have Sb:=ref02_Shr_c hb (n:=(m:Int)) (by omega)
      rw [Int.toNat_natCast] at Sa Sb
      refine Ev.bind Ea (Ev.bind Eb (Ev.bind Ea (Ev.bind Sa (Ev.bind Eb (Ev.bind Sb ?_)))))
      have qa:0≤nv a/2^n:=Int.ediv_nonneg hA0 (by have:=pow_pos n;omega)
      have qb:0≤nv b/2^m:=Int.ediv_nonneg hB0 (by have:=pow_pos m;omega)
      have qa1:nv a/2^n≤nv a:=Int.ediv_le_self _ hA0
      have qb1:nv b/2^m≤nv b:=Int.ediv_le_self _ hB0
      have ba1:=bl_mono qa1
      have bb1:=bl_mono qb1
      have hmn:mn (n:Int) (m:Int)=((min n m:Nat):Int):=by unfold mn;split<;>omega
      rw [hmn]
      have L:=ref05_Gcd_l1 (c:=((min n m:Nat):Int)) (by omega) (by omega) (nv a/2^n+nv b/2^m).toNat (nv a/2^n) (nv b/2^m) (Nat.le_refl _) (by omega) (by omega) n3 m3 (by omega) (by omega)
      rw [Int.toNat_natCast,← gc_halves qa qb n3 m3 n m,← n2,← m2] at L
      exact L
     by_cases h1:((dg (nv a)).length:Int)=1
     · refine Ev.ifp h1 (Ev.bind (ref02_Size_c hb) ?_)
       by_cases h2:((dg (nv b)).length:Int)=1
       · rw [h2]
         obtain ⟨a1,a2,a3,a4⟩:=one_word ha.1 (by omega)
         obtain ⟨b1,b2,b3,b4⟩:=one_word hb.1 (by omega)
         refine Ev.step (fun k=>gr05_Gcd.j0.eq_2 ..) (Ev.ifp rfl (Ev.ifp (by omega) (Ev.ifp (by omega) ?_)))
         rw [a2,b2]
         have g1:=gc_pos (a:=nv a) (b:=nv b) (.inl a3)
         have g2:=gc_split hA0 hB0
         have g3:gc (nv a) (nv b)≤nv a:=by
          have hq:0<nv a/gc (nv a) (nv b):=by
           rcases (show nv a/gc (nv a) (nv b)≤0∨0<nv a/gc (nv a) (nv b) by omega) with h | h
           · have:=Int.ediv_nonneg hA0 (show 0≤gc (nv a) (nv b) by omega)
             rw [show nv a/gc (nv a) (nv b)=0 by omega,Int.zero_mul] at g2
             omega
           · exact h
          have:=Int.mul_le_mul_of_nonneg_right (show 1≤nv a/gc (nv a) (nv b) by omega) (Int.le_of_lt g1)
          rw [g2.1] at this
          omega
         have L:=ref05_Gcd_l0 (nv b).toNat (nv a) (nv b) (Nat.le_refl _) a3 (by omega) a4 b4
         rw [dg_pos g1,dg_nil (by omega),Int.emod_eq_of_lt (by omega) (by omega)]
         exact L
       · have:(((dg (nv b)).length:Int)==1)=false:=by rw [beq_eq_false_iff_ne];exact h2
         rw [this]
         exact long
     · exact Ev.ifn h1 long
theorem ref05_Gcd_c {a b:List Int} (ha:Wl a) (hb:Wl b) (hla:a.length≤1000) (hlb:b.length≤1000):Ev (fun k=>gr05_Gcd.f k a b) (dg (gc (nv a) (nv b))):=by
 have bb:=bl_nv hb.1
 exact ref05_Gcd_B ha hb (by omega) (by omega) (fun h=>by have:=tz_lt h;omega)
def ab (x:Int):Int:=if x<0 then -x else x
theorem ab_nonneg (x:Int):0≤ab x:=by unfold ab;split<;>omega
theorem ab_zero {x:Int} :ab x=0↔x=0:=by unfold ab;split<;>omega
theorem ab_mul (x:Int) {d:Int} (h:0<d):ab (x*d)=ab x*d:=by
 unfold ab
 by_cases hx:x<0
 · have:=Int.mul_neg_of_neg_of_pos hx h
   rw [if_pos hx,if_pos this,Int.neg_mul]
 · have:=Int.mul_nonneg (show 0≤x by omega) (Int.le_of_lt h)
   rw [if_neg hx,if_neg (by omega)]
theorem neg_mul_iff (x:Int) {d:Int} (h:0<d):x*d<0↔x<0:=by
 constructor
 · intro h1
   rcases Int.lt_or_le x 0 with h2 | h2
   · exact h2
   · have:=Int.mul_nonneg h2 (Int.le_of_lt h)
     omega
 · intro h1
   exact Int.mul_neg_of_neg_of_pos h1 h
def Rq (S D:Int):Bool × List Int × List Int:=if S=0 then (false,[],[1]) else (decide (S<0),dg (ab S/gc (ab S) D),dg (D/gc (ab S) D))
theorem Rq_eq {S D S' D':Int} (hD:0<D) (hD':0<D') (h:S*D'=S'*D):Rq S D=Rq S' D':=by
 have n1:=neg_mul_iff S hD'
 have n2:=neg_mul_iff S' hD
 have a1:=ab_mul S hD'
 have a2:=ab_mul S' hD
 rw [h] at n1 a1
 have z:S=0↔S'=0:=by
  have z1:= @ab_zero S
  have z2:= @ab_zero S'
  constructor
  · intro k
    rw [k,Int.zero_mul] at h
    exact (Int.mul_eq_zero.1 h.symm).resolve_right (by omega)
  · intro k
    rw [k,Int.zero_mul] at h
    exact (Int.mul_eq_zero.1 h).resolve_right (by omega)
 unfold Rq
 by_cases hz:S=0
 · rw [if_pos hz,if_pos (z.1 hz)]
 · rw [if_neg hz,if_neg (fun k=>hz (z.2 k))]
   have hl:=lowest_eq (ab_nonneg S) hD (ab_nonneg S') hD' (by rw [← a1,a2])
   rw [hl.1,hl.2]
   congr 1
   exact decide_eq_decide.2 (n1.symm.trans n2)
theorem gc_le {a b:Int} (ha:0≤a) (hb:0<b):a/gc a b≤a∧b/gc a b≤b∧0<b/gc a b∧0≤a/gc a b:=by
 have g:=gc_pos (a:=a) (b:=b) (.inr hb)
 have s:=gc_split ha (Int.le_of_lt hb)
 have h0:0≤b/gc a b:=Int.ediv_nonneg (by omega) (by omega)
 refine ⟨Int.ediv_le_self _ ha,Int.ediv_le_self _ (by omega), ?_,Int.ediv_nonneg ha (by omega)⟩
 rcases (show b/gc a b=0∨0<b/gc a b by omega) with h | h
 · rw [h,Int.zero_mul] at s
   omega
 · exact h
theorem dg_one:dg 1= [1]:=by decide
theorem Rq_spec (S:Int) {D:Int} (hD:0<D) : ∃ N E:Int,Rq S D=(decide (S<0),dg N,dg E)∧0≤N∧0<E∧N≤ab S∧E≤D∧N*D=ab S*E∧(N=0↔S=0)∧gc N E=1:=by
 unfold Rq
 by_cases hz:S=0
 · rw [if_pos hz]
   refine ⟨0,1, ?_,by omega,by omega,ab_nonneg S,by omega, ?_,by omega,gc_one (by omega)⟩
   · rw [hz,dg_zero,dg_one];rfl
   · rw [hz];simp [ab]
 · rw [if_neg hz]
   have h0:=ab_nonneg S
   have hz2:= @ab_zero S
   obtain ⟨g1,g2,g3,g4⟩:=gc_le h0 hD
   have g:=gc_pos (a:=ab S) (b:=D) (.inr hD)
   have s:=gc_split h0 (Int.le_of_lt hD)
   have r:=gc_reduced h0 (Int.le_of_lt hD) (.inr hD)
   refine ⟨_,_,rfl,g4,g3,g1,g2, ?_, ?_,r⟩
   · generalize gc (ab S) D=c at *
     generalize hN:ab S/c=N at *
     generalize hE:D/c=E at *
     rw [← s.1,← s.2]
     grind
   · constructor
     · intro k
       rw [k,Int.zero_mul] at s
       exact hz2.1 s.1.symm
     · intro k
       exact absurd k hz
def sgI (s:Bool) (N:Int):Int:=if s then -N else N
theorem Rq_signed {S D N E:Int} (hN:N*D=ab S*E) (h0:N=0↔S=0):sgI (decide (S<0)) N*D=S*E:=by
 unfold sgI
 unfold ab at hN
 by_cases h:S<0
 · rw [if_pos h] at hN
   rw [decide_eq_true h,if_pos rfl,Int.neg_mul,hN,Int.neg_mul]
   omega
 · rw [if_neg h] at hN
   rw [decide_eq_false h,if_neg (by decide),hN]
theorem Rq_of (neg:Bool) {n d:Int} (hn:0<n):Rq (sgI neg n) d=(neg,dg (n/gc n d),dg (d/gc n d)):=by
 cases neg
 · show Rq n d=_
   have:ab n=n:=by unfold ab;rw [if_neg (by omega)]
   unfold Rq
   rw [if_neg (show ¬ n=0 by omega),decide_eq_false (show ¬ n<0 by omega),this]
 · show Rq (-n) d=_
   have:ab (-n)=n:=by unfold ab;rw [if_pos (by omega)];omega
   unfold Rq
   rw [if_neg (show ¬ -n=0 by omega),decide_eq_true (show -n<0 by omega),this]
def Fit (S D:Int):Prop:=0<D∧bl (ab S)≤14000∧bl D≤14000
theorem Rq_fit {S D:Int} (h:Fit S D) : ∃ N E:Int,Rq S D=(decide (S<0),dg N,dg E)∧0≤N∧0<E∧bl N≤14000∧bl E≤14000∧sgI (decide (S<0)) N*D=S*E∧(N=0↔S=0):=by
 obtain ⟨N,E,h1,h2,h3,h4,h5,h6,h7,h8⟩:=Rq_spec S h.1
 have:=bl_mono h4
 have:=bl_mono h5
 have:=h.2
 exact ⟨N,E,h1,h2,h3,by omega,by omega,Rq_signed h6 h7,h7⟩
theorem Fit_neg {S D:Int} (h:Fit S D):Fit (-S) D:=by
 have:ab (-S)=ab S:=by unfold ab;split<;>split<;>omega
 unfold Fit
 rw [this]
 exact h
theorem ref07_Words_l {a b:List Int} (hl:a.length=b.length) (ha:a.length≤1000000) (d:Nat) : ∀ i:Nat,i+d=a.length→a.take i=b.take i→Ev (fun k=>gr07_Words.l0 k a b (a.length:Int) i) (decide (a=b)):=by
 induction d with
 | zero =>
   intro i hi he
   refine Ev.step (fun k=>gr07_Words.l0.eq_2 ..) (Ev.ifn (by omega) (Ev.same ?_))
   rw [List.take_of_length_le (by omega),List.take_of_length_le (by omega)] at he
   rw [decide_eq_true he]
 | succ d ih =>
   intro i hi he
   have e:wrap64 ((i:Int)+1)=((i+1:Nat):Int):=by rw [w64_id (by omega) (by omega)];omega
   refine Ev.step (fun k=>gr07_Words.l0.eq_2 ..) (Ev.ifp (by omega) (Ev.ifp (by omega) (Ev.ifp (by omega) (Ev.ifp (by omega) ?_))))
   by_cases h:rd a (i:Int)=rd b (i:Int)
   · refine Ev.ifp h ?_
     rw [e]
     exact ih (i+1) (by omega) (by rw [take_rd (by omega),take_rd (by omega),he,h])
   · refine Ev.ifn h (Ev.same ?_)
     rw [decide_eq_false (fun k=>h (by rw [k]))]
theorem ref07_Words_c {a b:List Int} (ha:a.length≤1000000):Ev (fun k=>gr07_Words.f k a b) (decide (a=b)):=by
 by_cases h:(a.length:Int)=(b.length:Int)
 · exact Ev.ifp h (ref07_Words_l (by omega) ha a.length 0 (by omega) rfl)
 · exact Ev.ifn h (Ev.same (by rw [decide_eq_false (fun k=>h (by rw [k]))]))
theorem ref07_Same_c {s s':Bool} {a b a' b':List Int} (ha:a.length≤1000000) (hb:b.length≤1000000):Ev (fun k=>gr07_Same.f k s a b s' a' b') (decide ((s,a,b)=(s',a',b'))):=by
 by_cases hs:s=s'
 · refine Ev.ifp (by rw [hs];simp) (Ev.bind (ref07_Words_c ha) ?_)
   by_cases h1:a=a'
   · refine Ev.ifp (decide_eq_true h1) (Ev.bind (ref07_Words_c hb) (Ev.same ?_))
     congr 1
     rw [hs,h1]
     simp
   · refine Ev.ifn (by rw [decide_eq_false h1];decide) (Ev.same ?_)
     rw [decide_eq_false]
     simp [h1]
 · refine Ev.ifn (by simp [hs]) (Ev.same ?_)
   rw [decide_eq_false]
   simp [hs]
theorem cmpI_zero {x y:Int} :cmpI x y=0↔x=y:=by unfold cmpI;split<;>(try split)<;>omega
def RR (neg:Bool) (a b:List Int):Prop:=dg (nv a)=a∧dg (nv b)=b∧b.length≠0∧(neg=true→a.length≠0)∧gc (nv a) (nv b)=1
theorem ref07_Right_c {a b:List Int} (neg:Bool) (ha:Wl a) (hb:Wl b) (hla:a.length≤1000) (hlb:b.length≤1000) : ∃ r,Ev (fun k=>gr07_Right.f k neg a b) r∧(r=true↔RR neg a b):=by
 have na:=nv_nonneg ha.1
 have nb:=nv_nonneg hb.1
 have bt : ∀ {x:Bool},x=true→Ev (fun k=>gr07_Right.j0 k x neg a b) false:=fun h=>Ev.eqv (fun k=>gr07_Right.j0.eq_1 ..) (Ev.ifp h (Ev.same rfl))
 have bf : ∀ {x:Bool},x=false→Ev (fun k=>gr07_Right.j0 k x neg a b) (decide (gc (nv a) (nv b)=1)):=fun h=>by
  refine Ev.eqv (fun k=>gr07_Right.j0.eq_1 ..) (Ev.ifn (by rw [h];decide) (Ev.bind (ref05_Gcd_c ha hb hla hlb) ?_))
  have hg:=gc_nonneg (nv a) (nv b)
  have C:=ref02_Cmp_c (a:=dg (gc (nv a) (nv b))) (b:= [1]) (Wl_dg (by
   have h1:=bl_gc na nb (m:=64000) (by have:=bl_nv ha.1;omega) (by have:=bl_nv hb.1;omega)
   omega)) ⟨Ws_one (by unfold U;omega),by decide⟩
  rw [nv_dg hg,nv_one] at C
  refine Ev.bind C (Ev.same ?_)
  congr 1
  have:=cmpI_zero (x:=gc (nv a) (nv b)) (y:=1)
  by_cases h2:gc (nv a) (nv b)=1
  · rw [decide_eq_true h2,this.2 h2];rfl
  · rw [decide_eq_false h2]
    exact beq_eq_false_iff_ne.2 (fun k=>h2 (this.1 k))
 unfold RR
 by_cases h1:dg (nv a)=a
 · by_cases h2:dg (nv b)=b
   · by_cases h3:b.length=0
     · exact ⟨_,Ev.bind (ref02_Right_c ha) (Ev.ifp (decide_eq_true h1) (Ev.bind (ref02_Right_c hb) (Ev.ifp (decide_eq_true h2) (Ev.ifp (by omega) (bt rfl))))),by simp [h3]⟩
     · have pre : ∀ {r:Bool},Ev (fun k=>if neg=true then gr07_Right.j0 k ((a.length:Int)==0) neg a b else gr07_Right.j0 k false neg a b) r→Ev (fun k=>gr07_Right.f k neg a b) r:=fun h =>
        Ev.bind (ref02_Right_c ha) (Ev.ifp (decide_eq_true h1) (Ev.bind (ref02_Right_c hb) (Ev.ifp (decide_eq_true h2) (Ev.ifn (by omega) h))))
       cases neg
       · exact ⟨_,pre (Ev.ifn (by decide) (bf rfl)),by simp [h1,h2,h3]⟩
       · by_cases h4:a.length=0
         · exact ⟨_,pre (Ev.ifp rfl (bt (by rw [h4];rfl))),by simp [h4]⟩
         · exact ⟨_,pre (Ev.ifp rfl (bf (beq_eq_false_iff_ne.2 (by omega)))),by simp [h1,h2,h3,h4]⟩
   · exact ⟨_,Ev.bind (ref02_Right_c ha) (Ev.ifp (decide_eq_true h1) (Ev.bind (ref02_Right_c hb) (Ev.ifn (by simp [h2]) (bt rfl)))),by simp [h2]⟩
 · exact ⟨_,Ev.bind (ref02_Right_c ha) (Ev.ifn (by simp [h1]) (bt rfl)),by simp [h1]⟩
theorem RR_pos {neg:Bool} {a b:List Int} (hb:Ws b) (h:RR neg a b):0<nv b:=by
 obtain ⟨h1,h2,h3,h4,h5⟩:=h
 have nb:=nv_nonneg hb
 rcases (show nv b=0∨0<nv b by omega) with k | k
 · exfalso;apply h3;rw [← h2,k,dg_zero];rfl
 · exact k
theorem RR_Rq {neg:Bool} {a b:List Int} (ha:Ws a) (hb:Ws b) (h:RR neg a b):Rq (sgI neg (nv a)) (nv b)=(neg,a,b):=by
 have hB:=RR_pos hb h
 obtain ⟨h1,h2,h3,h4,h5⟩:=h
 have na:=nv_nonneg ha
 rcases (show nv a=0∨0<nv a by omega) with k | k
 · have ea:a= []:=by rw [← h1,k,dg_zero]
   have en:neg=false:=by
    cases neg
    · rfl
    · exact absurd (by rw [ea];rfl) (h4 rfl)
   rw [k,gc_comm,gc_zero (by omega)] at h5
   rw [k,en,ea,← h2,h5,dg_one]
   rfl
 · rw [Rq_of neg k,h5,Int.ediv_one,Int.ediv_one,h1,h2]
theorem rat_lowest_c {a b:List Int} (neg:Bool) (ha:Wl a) (hb:Wl b) (hla:a.length≤10000000) (hlb:b.length≤10000000) (hB:0<nv b):Ev (fun k=>rat_lowest.f k neg a b) (Rq (sgI neg (nv a)) (nv b)):=by
 have na:=nv_nonneg ha.1
 refine Ev.bind (gcd_Reduce_c ha hb hla hlb) ?_
 dsimp only
 rcases (show nv a=0∨0<nv a by omega) with h | h
 · have e0:gc (nv a) (nv b)=nv b:=by rw [h,gc_comm];exact gc_zero (by omega)
   have e1:Rq (sgI neg (nv a)) (nv b)=(false,[],[1]):=by
    rw [h];unfold Rq sgI;cases neg<;>rfl
   rw [e0,e1,h,Int.zero_ediv,Int.ediv_self (by omega),dg_zero,dg_one]
   cases neg
   · exact Ev.ifn (by decide) (Ev.same rfl)
   · exact Ev.ifp rfl (Ev.same rfl)
 · have hs:=gc_split (show 0≤nv a by omega) (show 0≤nv b by omega)
   have hg:=gc_pos (a:=nv a) (b:=nv b) (.inl h)
   have hq:0<nv a/gc (nv a) (nv b):=by
    rcases Int.lt_or_le 0 (nv a/gc (nv a) (nv b)) with k | k
    · exact k
    · have:=Int.mul_nonpos_of_nonpos_of_nonneg k (show 0≤gc (nv a) (nv b) by omega)
      omega
   have e1:Rq (sgI neg (nv a)) (nv b)=(neg,dg (nv a/gc (nv a) (nv b)),dg (nv b/gc (nv a) (nv b))):=by
    unfold Rq
    have:sgI neg (nv a)≠0∧ab (sgI neg (nv a))=nv a∧decide (sgI neg (nv a)<0)=neg:=by
     cases neg
     · refine ⟨by unfold sgI;simp;omega,by unfold ab sgI;simp;omega,by unfold sgI;simp;omega⟩
     · refine ⟨by unfold sgI;simp;omega,by unfold ab sgI;simp;omega,by unfold sgI;simp;omega⟩
    rw [if_neg this.1,this.2.1,this.2.2]
   rw [e1]
   have hl:dg (nv a/gc (nv a) (nv b))≠ []:=by rw [dg_pos hq];exact List.cons_ne_nil _ _
   cases neg
   · exact Ev.ifn (by decide) (Ev.same rfl)
   · refine Ev.ifp rfl (Ev.same ?_)
     have:0<(dg (nv a/gc (nv a) (nv b))).length:=List.length_pos_iff.2 hl
     rw [decide_eq_true (show ((dg (nv a/gc (nv a) (nv b))).length:Int)>0 by omega)]
theorem rat_Sign_c {a b:List Int} (neg:Bool) (ha:Wl a):Ev (fun k=>rat_Sign.f k neg a b) (if nv a=0 then 0 else if neg then -1 else 1):=by
 have na:=nv_nonneg ha.1
 refine Ev.bind (nat_Bits_c ha) ?_
 by_cases h:nv a=0
 · rw [if_pos h,h]
   exact Ev.ifp rfl (Ev.same rfl)
 · rw [if_neg h]
   have:=bl_pos (x:=nv a) (by omega)
   refine Ev.ifn (by omega) ?_
   cases neg
   · exact Ev.ifn (by decide) (Ev.same rfl)
   · exact Ev.ifp rfl (Ev.same rfl)
theorem rat_same_c {x y:Int} (hx:0≤x) (hy:0≤y) (bx:bl x≤600000000) (by_:bl y≤600000000):Ev (fun k=>rat_same.f k (dg x) (dg y)) (decide (x=y)):=by
 have w1:Wl (dg x):=Wl_dg (by omega)
 have w2:Wl (dg y):=Wl_dg (by omega)
 have R1:=nat_Right_c w1
 have R2:=nat_Right_c w2
 have C:=nat_Cmp_c w1 w2
 rw [nv_dg hx,decide_eq_true rfl] at R1
 rw [nv_dg hy,decide_eq_true rfl] at R2
 rw [nv_dg hx,nv_dg hy] at C
 refine Ev.bindc R1 (Ev.ifp rfl (Ev.bindc R2 (Ev.ifp rfl (Ev.bind C (Ev.same ?_)))))
 congr 1
 unfold cmpI
 by_cases h:x=y
 · rw [decide_eq_true h,if_neg (by omega),if_neg (by omega)];rfl
 · rw [decide_eq_false h]
   split
   · rfl
   · rw [if_pos (by omega)];rfl
theorem rat_sum_c {x y:Int} (s s':Bool) (hx:0≤x) (hy:0≤y) (bx:bl x≤600000000) (by_:bl y≤600000000) :
 ∃ (t:Bool) (m:Int),Ev (fun k=>rat_sum.f k s (dg x) s' (dg y)) (t,dg m)∧0≤m∧bl m≤600000001∧sgI t m=sgI s x+sgI s' y:=by
 have w1:Wl (dg x):=Wl_dg (by omega)
 have w2:Wl (dg y):=Wl_dg (by omega)
 have l1:=dg_len_bl x
 have l2:=dg_len_bl y
 by_cases hs:(s==s')=true
 · have e:=eq_of_beq hs
   have A:=nat_Add_c w1 w2 (by omega) (by omega)
   rw [nv_dg hx,nv_dg hy] at A
   refine ⟨s,x+y,Ev.ifp hs (Ev.bind A (Ev.same rfl)),by omega, ?_, ?_⟩
   · have:=bl_add hx hy (m:=600000000) bx by_;omega
   · rw [← e];unfold sgI;cases s<;>simp<;>omega
 · have e:s'= !s:=by cases s<;>cases s'<;>simp_all
   by_cases hge:y≤x
   · have S:=nat_Sub_c w1 w2 (by rw [nv_dg hx,nv_dg hy];exact hge)
     rw [nv_dg hx,nv_dg hy] at S
     refine ⟨s,x-y,Ev.ifn hs (Ev.bind S (Ev.ifp rfl (Ev.same rfl))),by omega, ?_, ?_⟩
     · have:=bl_mono (show x-y≤x by omega);omega
     · rw [e];unfold sgI;cases s<;>simp<;>omega
   · have N:=nat_Sub_no w1 w2 (by rw [nv_dg hx,nv_dg hy];omega)
     have S:=nat_Sub_c w2 w1 (by rw [nv_dg hx,nv_dg hy];omega)
     rw [nv_dg hx,nv_dg hy] at S
     refine ⟨s',y-x,Ev.ifn hs (Ev.bind N (Ev.ifn (by decide) (Ev.bind S (Ev.same rfl)))),by omega, ?_, ?_⟩
     · have:=bl_mono (show y-x≤y by omega);omega
     · rw [e];unfold sgI;cases s<;>simp<;>omega
theorem rat_safe_c {x:Int} (hx:0<x) (bx:bl x≤600000000):Ev (fun k=>rat_safe.f k (dg x)) (dg x):=by
 have B:=nat_Bits_c (l:=dg x) (Wl_dg (by omega))
 rw [nv_dg (by omega)] at B
 have:=bl_pos hx
 exact Ev.bind B (Ev.ifn (by omega) (Ev.same rfl))
theorem lowest_dg {n d:Int} (neg:Bool) (hn:0≤n) (hd:0<d) (bn:bl n≤630000000) (bd:bl d≤630000000):Ev (fun k=>rat_lowest.f k neg (dg n) (dg d)) (Rq (sgI neg n) d):=by
 have ln:=dg_len_bl n
 have ld:=dg_len_bl d
 have:=rat_lowest_c neg (a:=dg n) (b:=dg d) (Wl_dg (by omega)) (Wl_dg (by omega)) (by omega) (by omega) (by rw [nv_dg (by omega)];exact hd)
 rwa [nv_dg hn,nv_dg (by omega)] at this
def FitB (S D:Int):Prop:=0<D∧bl (ab S)≤100000000∧bl D≤100000000
theorem Fit.big {S D:Int} (h:Fit S D):FitB S D:=⟨h.1,by have:=h.2.1;omega,by have:=h.2.2;omega⟩
theorem Rq_fitB {S D:Int} (h:FitB S D) : ∃ N E:Int,Rq S D=(decide (S<0),dg N,dg E)∧0≤N∧0<E∧bl N≤100000000∧bl E≤100000000∧sgI (decide (S<0)) N*D=S*E∧(N=0↔S=0):=by
 obtain ⟨N,E,h1,h2,h3,h4,h5,h6,h7,h8⟩:=Rq_spec S h.1
 have:=bl_mono h4
 have:=bl_mono h5
 have:=h.2
 exact ⟨N,E,h1,h2,h3,by omega,by omega,Rq_signed h6 h7,h7⟩
theorem rat_Add_B {S D S' D':Int} (h:FitB S D) (h':FitB S' D'):Ev (fun k=>rat_Add.f k (Rq S D).1 (Rq S D).2.1 (Rq S D).2.2 (Rq S' D').1 (Rq S' D').2.1 (Rq S' D').2.2) (Rq (S*D'+S'*D) (D*D')):=by
 obtain ⟨N,E,h1,h2,h3,h4,h5,h6,h7⟩:=Rq_fitB h
 obtain ⟨N',E',k1,k2,k3,k4,k5,k6,k7⟩:=Rq_fitB h'
 rw [h1,k1]
 dsimp only
 have dd:0<D*D':=Int.mul_pos h.1 h'.1
 refine Ev.bind (rat_same_c (Int.le_of_lt h3) (Int.le_of_lt k3) (by omega) (by omega)) ?_
 by_cases hE:E=E'
 · refine Ev.ifp (decide_eq_true hE) ?_
   obtain ⟨t,m,q1,q2,q3,q4⟩:=rat_sum_c (decide (S<0)) (decide (S'<0)) h2 k2 (by omega) (by omega)
   refine Ev.bind q1 (Ev.bind (rat_safe_c h3 (by omega)) (Ev.bind (lowest_dg t q2 h3 (by omega) (by omega)) (Ev.same ?_)))
   rw [q4]
   congr 1
   have e:Rq (sgI (decide (S<0)) N+sgI (decide (S'<0)) N') E=Rq (S*D'+S'*D) (D*D'):=by
    refine Rq_eq h3 dd ?_
    generalize sgI (decide (S<0)) N=σ at *
    generalize sgI (decide (S'<0)) N'=σ' at *
    subst hE
    have a1:(σ+σ')*(D*D')=(σ*D)*D'+(σ'*D')*D:=by grind
    have a2:(S*D'+S'*D)*E=(S*E)*D'+(S'*E)*D:=by grind
    rw [a1,a2,h6,k6]
   rw [e]
 · refine Ev.ifn (by simp [hE]) ?_
   have lN:=dg_len_bl N
   have lE:=dg_len_bl E
   have lN':=dg_len_bl N'
   have lE':=dg_len_bl E'
   have M1:=prod_Mul_c (a:=dg N) (b:=dg E') (Wl_dg (by omega)) (Wl_dg (by omega)) (by omega) (by omega)
   have M2:=prod_Mul_c (a:=dg N') (b:=dg E) (Wl_dg (by omega)) (Wl_dg (by omega)) (by omega) (by omega)
   have M3:=prod_Mul_c (a:=dg E) (b:=dg E') (Wl_dg (by omega)) (Wl_dg (by omega)) (by omega) (by omega)
   rw [nv_dg h2,nv_dg (Int.le_of_lt k3)] at M1
   rw [nv_dg k2,nv_dg (Int.le_of_lt h3)] at M2
   rw [nv_dg (Int.le_of_lt h3),nv_dg (Int.le_of_lt k3)] at M3
   have b1:=bl_mul h2 (Int.le_of_lt k3)
   have b2:=bl_mul k2 (Int.le_of_lt h3)
   have b3:=bl_mul (Int.le_of_lt h3) (Int.le_of_lt k3)
   have x0:0≤N*E':=Int.mul_nonneg h2 (Int.le_of_lt k3)
   have y0:0≤N'*E:=Int.mul_nonneg k2 (Int.le_of_lt h3)
   have d0:0<E*E':=Int.mul_pos h3 k3
   obtain ⟨t,m,q1,q2,q3,q4⟩:=rat_sum_c (decide (S<0)) (decide (S'<0)) x0 y0 (by omega) (by omega)
   refine Ev.bind M1 (Ev.bind M2 (Ev.bind q1 (Ev.bind M3 (Ev.bind (rat_safe_c d0 (by omega)) (Ev.bind (lowest_dg t q2 d0 (by omega) (by omega)) (Ev.same ?_))))))
   rw [q4]
   congr 1
   have e:Rq (sgI (decide (S<0)) (N*E')+sgI (decide (S'<0)) (N'*E)) (E*E')=Rq (S*D'+S'*D) (D*D'):=by
    refine Rq_eq d0 dd ?_
    have m1:sgI (decide (S<0)) (N*E')=sgI (decide (S<0)) N*E':=by unfold sgI;cases decide (S<0)<;>simp [Int.neg_mul]
    have m2:sgI (decide (S'<0)) (N'*E)=sgI (decide (S'<0)) N'*E:=by unfold sgI;cases decide (S'<0)<;>simp [Int.neg_mul]
    rw [m1,m2]
    generalize sgI (decide (S<0)) N=σ at *
    generalize sgI (decide (S'<0)) N'=σ' at *
    have a1:(σ*E'+σ'*E)*(D*D')=(σ*D)*(D'*E')+(σ'*D')*(D*E):=by grind
    have a2:(S*D'+S'*D)*(E*E')=(S*E)*(D'*E')+(S'*E')*(D*E):=by grind
    rw [a1,a2,h6,k6]
   rw [e]
theorem rat_Add_c {S D S' D':Int} (h:Fit S D) (h':Fit S' D'):Ev (fun k=>rat_Add.f k (Rq S D).1 (Rq S D).2.1 (Rq S D).2.2 (Rq S' D').1 (Rq S' D').2.1 (Rq S' D').2.2) (Rq (S*D'+S'*D) (D*D')):=rat_Add_B h.big h'.big
theorem rat_Right_c {a b:List Int} (neg:Bool) (ha:Wl a) (hb:Wl b) (hla:a.length≤1000) (hlb:b.length≤1000) : ∃ r,Ev (fun k=>rat_Right.f k neg a b) r∧(r=true↔RR neg a b):=by
 have C:=gcd_Coprime_c ha hb (by omega) (by omega)
 unfold RR
 by_cases h1:dg (nv a)=a
 · by_cases h2:dg (nv b)=b
   · have pre : ∀ {r:Bool},Ev (fun k=>if (b.length:Int)>0 then ((gcd_Coprime.f k a b).bind fun t=>(if t=true then (if neg=true then (some (!((a.length:Int)==0))) else (some (!false))) else (some false))) else (some false)) r→Ev (fun k=>rat_Right.f k neg a b) r:=fun h =>
      Ev.bindc (nat_Right_c ha) (Ev.ifp (decide_eq_true h1) (Ev.bindc (nat_Right_c hb) (Ev.ifp (decide_eq_true h2) h)))
     by_cases h3:b.length=0
     · exact ⟨false,pre (Ev.ifn (by omega) (Ev.same rfl)),by simp [h3]⟩
     · by_cases h5:gc (nv a) (nv b)=1
       · rw [decide_eq_true h5] at C
         cases neg
         · exact ⟨true,pre (Ev.ifp (by omega) (Ev.bind C (Ev.ifp rfl (Ev.ifn (by decide) (Ev.same rfl))))),by simp [h1,h2,h3,h5]⟩
         · by_cases h4:a.length=0
           · exact ⟨false,pre (Ev.ifp (by omega) (Ev.bind C (Ev.ifp rfl (Ev.ifp rfl (Ev.same (by rw [h4];rfl)))))),by simp [h4]⟩
           · exact ⟨true,pre (Ev.ifp (by omega) (Ev.bind C (Ev.ifp rfl (Ev.ifp rfl (Ev.same (by rw [beq_eq_false_iff_ne.2 (show (a.length:Int)≠0 by omega)];rfl)))))),by simp [h1,h2,h3,h4,h5]⟩
       · rw [decide_eq_false h5] at C
         exact ⟨false,pre (Ev.ifp (by omega) (Ev.bind C (Ev.ifn (by decide) (Ev.same rfl)))),by simp [h5]⟩
   · exact ⟨false,Ev.bindc (nat_Right_c ha) (Ev.ifp (decide_eq_true h1) (Ev.bindc (nat_Right_c hb) (Ev.ifn (by simp [h2]) (Ev.same rfl)))),by simp [h2]⟩
 · exact ⟨false,Ev.bindc (nat_Right_c ha) (Ev.ifn (by simp [h1]) (Ev.same rfl)),by simp [h1]⟩
theorem Trim_dg {x:Int} (hx:0≤x) (bx:bl x≤60000):Ev (fun k=>nat_Trim.f k (dg x)) (dg x):=by
 have T:=nat_Trim_c (l:=dg x) (Wl_dg (by omega))
 rw [nv_dg hx] at T
 exact T
theorem Rq_neg (S:Int) {D:Int} (hD:0<D):Rq (-S) D=(decide (0<S),(Rq S D).2.1,(Rq S D).2.2):=by
 have e:ab (-S)=ab S:=by unfold ab;split<;>split<;>omega
 unfold Rq
 rw [e]
 by_cases h:S=0
 · rw [if_pos h,if_pos (by omega),decide_eq_false (by omega)]
 · rw [if_neg h,if_neg (by omega)]
   congr 1
   exact decide_eq_decide.2 (by omega)
theorem rat_Neg_c {S D:Int} (h:Fit S D):Ev (fun k=>rat_Neg.f k (Rq S D).1 (Rq S D).2.1 (Rq S D).2.2) (Rq (-S) D):=by
 rw [Rq_neg S h.1]
 obtain ⟨N,E,h1,h2,h3,h4,h5,h6,h7⟩:=Rq_fit h
 rw [h1]
 dsimp only
 have T1:=Trim_dg h2 (by omega)
 have T2:=Trim_dg (Int.le_of_lt h3) (by omega)
 have lN:=dg_len_bl N
 have B:=nat_Bits_c (l:=dg N) (Wl_dg (by omega))
 rw [nv_dg h2] at B
 by_cases hs:S<0
 · rw [decide_eq_true hs,decide_eq_false (show ¬ 0<S by omega)]
   exact Ev.ifp rfl (Ev.bind T1 (Ev.bind T2 (Ev.same rfl)))
 · rw [decide_eq_false hs]
   refine Ev.ifn (by decide) (Ev.bind B (Ev.bind T1 (Ev.bind T2 (Ev.same ?_))))
   congr 2
   refine decide_eq_decide.2 ?_
   rcases (show N=0∨0<N by omega) with k | k
   · rw [k,bl_zero];have:=h7.1 k;omega
   · have:=bl_pos k;have:S≠0:=fun q=>by have:=h7.2 q;omega
     omega
theorem rat_Sub_c {S D S' D':Int} (h:Fit S D) (h':Fit S' D'):Ev (fun k=>rat_Sub.f k (Rq S D).1 (Rq S D).2.1 (Rq S D).2.2 (Rq S' D').1 (Rq S' D').2.1 (Rq S' D').2.2) (Rq (S*D'-S'*D) (D*D')):=by
 refine Ev.bind (rat_Neg_c h') (Ev.bind (rat_Add_c h (Fit_neg h')) (Ev.same ?_))
 rw [Int.neg_mul]
 rfl
def Fb (n:Int) (S D:Int):Prop:=0<D∧bl (ab S)≤n∧bl D≤n
theorem Fb_fit {n S D:Int} (h:Fb n S D) (hn:n≤14000):Fit S D:=⟨h.1,by have:=h.2.1;omega,by have:=h.2.2;omega⟩
theorem ab_prod (x y:Int):ab (x*y)=ab x*ab y:=by
 rcases Int.lt_or_le y 0 with h | h
 · have e:x*y=(-x)*(-y):=by rw [Int.neg_mul_neg]
   have a1:ab (-x)=ab x:=by unfold ab;split<;>split<;>omega
   have a2:ab y= -y:=by unfold ab;rw [if_pos h]
   rw [e,ab_mul _ (show 0 < -y by omega),a1,a2]
 · rcases (show y=0∨0<y by omega) with k | k
   · rw [k,Int.mul_zero,show ab 0=0 from rfl,Int.mul_zero]
   · rw [ab_mul _ k]
     have:ab y=y:=by unfold ab;rw [if_neg (by omega)]
     rw [this]
theorem ab_add (x y:Int):ab (x+y)≤ab x+ab y:=by unfold ab;split<;>split<;>split<;>omega
theorem Fb_neg {n S D:Int} (h:Fb n S D):Fb n (-S) D:=by
 have:ab (-S)=ab S:=by unfold ab;split<;>split<;>omega
 unfold Fb
 rw [this]
 exact h
theorem Fb_add {n m S D S' D':Int} (h:Fb n S D) (h':Fb m S' D'):Fb (n+m+1) (S*D'+S'*D) (D*D'):=by
 have e1:ab (S*D')=ab S*D':=ab_mul S h'.1
 have e2:ab (S'*D)=ab S'*D:=ab_mul S' h.1
 have b1:=bl_mul (ab_nonneg S) (Int.le_of_lt h'.1)
 have b2:=bl_mul (ab_nonneg S') (Int.le_of_lt h.1)
 have b3:=bl_mul (Int.le_of_lt h.1) (Int.le_of_lt h'.1)
 have hh:=h.2
 have hh':=h'.2
 have n1:0≤ab S*D':=Int.mul_nonneg (ab_nonneg S) (Int.le_of_lt h'.1)
 have n2:0≤ab S'*D:=Int.mul_nonneg (ab_nonneg S') (Int.le_of_lt h.1)
 have b4:=bl_add n1 n2 (m:=n+m) (by omega) (by omega)
 have a:=ab_add (S*D') (S'*D)
 rw [e1,e2] at a
 have:=bl_mono a
 exact ⟨Int.mul_pos h.1 h'.1,by omega,by omega⟩
theorem Fb_mul {n m S D S' D':Int} (h:Fb n S D) (h':Fb m S' D'):Fb (n+m) (S*S') (D*D'):=by
 have b1:=bl_mul (ab_nonneg S) (ab_nonneg S')
 have b3:=bl_mul (Int.le_of_lt h.1) (Int.le_of_lt h'.1)
 have hh:=h.2
 have hh':=h'.2
 refine ⟨Int.mul_pos h.1 h'.1, ?_,by omega⟩
 rw [ab_prod]
 omega
theorem sgI_mul (s s':Bool) (x y:Int):sgI s x*sgI s' y=sgI (s !=s') (x*y):=by
 unfold sgI
 cases s<;>cases s'<;>simp [Int.neg_mul,Int.mul_neg]
theorem rat_Mul_B {S D S' D':Int} (h:FitB S D) (h':FitB S' D'):Ev (fun k=>rat_Mul.f k (Rq S D).1 (Rq S D).2.1 (Rq S D).2.2 (Rq S' D').1 (Rq S' D').2.1 (Rq S' D').2.2) (Rq (S*S') (D*D')):=by
 obtain ⟨N,E,h1,h2,h3,h4,h5,h6,h7⟩:=Rq_fitB h
 obtain ⟨N',E',k1,k2,k3,k4,k5,k6,k7⟩:=Rq_fitB h'
 rw [h1,k1]
 dsimp only
 have lN:=dg_len_bl N
 have lE:=dg_len_bl E
 have lN':=dg_len_bl N'
 have lE':=dg_len_bl E'
 have R1:=gcd_Reduce_c (a:=dg N) (b:=dg E') (Wl_dg (by omega)) (Wl_dg (by omega)) (by omega) (by omega)
 have R2:=gcd_Reduce_c (a:=dg N') (b:=dg E) (Wl_dg (by omega)) (Wl_dg (by omega)) (by omega) (by omega)
 rw [nv_dg h2,nv_dg (Int.le_of_lt k3)] at R1
 rw [nv_dg k2,nv_dg (Int.le_of_lt h3)] at R2
 have g1:=gc_le h2 k3
 have g2:=gc_le k2 h3
 have s1:=gc_split h2 (Int.le_of_lt k3)
 have s2:=gc_split k2 (Int.le_of_lt h3)
 have p1:=gc_pos (a:=N) (b:=E') (.inr k3)
 have p2:=gc_pos (a:=N') (b:=E) (.inr h3)
 have dd:0<D*D':=Int.mul_pos h.1 h'.1
 generalize N/gc N E'=n1 at *
 generalize E'/gc N E'=e1 at *
 generalize N'/gc N' E=n2 at *
 generalize E/gc N' E=e2 at *
 have m1:=bl_mono g1.1
 have m2:=bl_mono g1.2.1
 have m3:=bl_mono g2.1
 have m4:=bl_mono g2.2.1
 have M1:=prod_Mul_dg (x:=n1) (y:=n2) g1.2.2.2 g2.2.2.2 (by omega) (by omega)
 have M2:=prod_Mul_dg (x:=e2) (y:=e1) (Int.le_of_lt g2.2.2.1) (Int.le_of_lt g1.2.2.1) (by omega) (by omega)
 have b1:=bl_mul g1.2.2.2 g2.2.2.2
 have b2:=bl_mul (Int.le_of_lt g2.2.2.1) (Int.le_of_lt g1.2.2.1)
 have d0:0<e2*e1:=Int.mul_pos g2.2.2.1 g1.2.2.1
 have n0:0≤n1*n2:=Int.mul_nonneg g1.2.2.2 g2.2.2.2
 refine Ev.bind (rat_safe_c k3 (by omega)) (Ev.bind R1 (Ev.bind (rat_safe_c h3 (by omega)) (Ev.bind R2 (Ev.bind M1 (Ev.bind M2 (Ev.bind (lowest_dg _ n0 d0 (by omega) (by omega)) (Ev.same ?_)))))))
 have e:Rq (sgI (decide (S<0) !=decide (S'<0)) (n1*n2)) (e2*e1)=Rq (S*S') (D*D'):=by
  refine Rq_eq d0 dd ?_
  generalize gc N E'=g at *
  generalize gc N' E=g' at *
  have q:0<g*g':=Int.mul_pos p1 p2
  refine Int.eq_of_mul_eq_mul_right (show g*g'≠0 by omega) ?_
  rw [← sgI_mul]
  have t1:sgI (decide (S<0)) N=sgI (decide (S<0)) n1*g:=by rw [← s1.1];unfold sgI;cases decide (S<0)<;>simp [Int.neg_mul]
  have t2:sgI (decide (S'<0)) N'=sgI (decide (S'<0)) n2*g':=by rw [← s2.1];unfold sgI;cases decide (S'<0)<;>simp [Int.neg_mul]
  rw [t1,← s2.2] at h6
  rw [t2,← s1.2] at k6
  generalize sgI (decide (S<0)) n1=σ at *
  generalize sgI (decide (S'<0)) n2=σ' at *
  have a1:σ*σ'*(D*D')*(g*g')=(σ*g*D)*(σ'*g'*D'):=by grind
  have a2:S*S'*(e2*e1)*(g*g')=(S*(e2*g'))*(S'*(e1*g)):=by grind
  rw [a1,a2,h6,k6]
 rw [← e]
theorem rat_Mul_c {S D S' D':Int} (h:Fit S D) (h':Fit S' D'):Ev (fun k=>rat_Mul.f k (Rq S D).1 (Rq S D).2.1 (Rq S D).2.2 (Rq S' D').1 (Rq S' D').2.1 (Rq S' D').2.2) (Rq (S*S') (D*D')):=rat_Mul_B h.big h'.big
def IS (S D:Int):Int:=sgI (decide (S<0)) D
theorem Fb_inv {n S D:Int} (h:Fb n S D) (hS:S≠0):Fb n (IS S D) (ab S):=by
 have:=ab_nonneg S
 have h1:ab S≠0:=fun k=>hS (ab_zero.1 k)
 have:ab (IS S D)=D:=by
  have:=h.1
  unfold IS ab sgI
  split<;>split<;>omega
 exact ⟨by omega,by rw [this];exact h.2.2,h.2.1⟩
theorem Fit_inv {S D:Int} (h:Fit S D) (hS:S≠0):Fit (IS S D) (ab S):=by
 have:=Fb_inv (n:=14000) (S:=S) (D:=D) ⟨h.1,h.2.1,h.2.2⟩ hS
 exact ⟨this.1,this.2.1,this.2.2⟩
theorem rat_Inv_c {S D:Int} (h:Fit S D):Ev (fun k=>rat_Inv.f k (Rq S D).1 (Rq S D).2.1 (Rq S D).2.2) (if S=0 then (false,[],[],4) else ((Rq (IS S D) (ab S)).1,(Rq (IS S D) (ab S)).2.1,(Rq (IS S D) (ab S)).2.2,0)):=by
 obtain ⟨N,E,h1,h2,h3,h4,h5,h6,h7,h8⟩:=Rq_spec S h.1
 have b1:=bl_mono h4
 have b2:=bl_mono h5
 have hh:=h.2
 rw [h1]
 dsimp only
 have B:=nat_Bits_c (l:=dg N) (Wl_dg (by omega))
 rw [nv_dg h2] at B
 refine Ev.bind B ?_
 by_cases hz:S=0
 · rw [if_pos hz]
   exact Ev.ifp (by rw [h7.2 hz];rfl) (Ev.same rfl)
 · rw [if_neg hz]
   have hN:0<N:=by
    have:N≠0:=fun k=>hz (h7.1 k)
    omega
   have:=bl_pos hN
   refine Ev.ifn (by omega) (Ev.bind (Trim_dg (Int.le_of_lt h3) (by omega)) (Ev.bind (Trim_dg h2 (by omega)) (Ev.same ?_)))
   have e:Rq (IS S D) (ab S)=(decide (S<0),dg E,dg N):=by
    have a0:0<ab S:=by
     have:=ab_nonneg S
     have:ab S≠0:=fun k=>hz (ab_zero.1 k)
     omega
    have e1:Rq (IS S D) (ab S)=Rq (sgI (decide (S<0)) E) N:=by
     refine Rq_eq a0 hN ?_
     unfold IS sgI
     cases decide (S<0)
     · simp only [Bool.false_eq_true,if_false];rw [Int.mul_comm,h6,Int.mul_comm]
     · simp only [if_true];rw [Int.neg_mul,Int.neg_mul,Int.mul_comm,h6,Int.mul_comm]
    rw [e1,Rq_of _ h3,gc_comm,h8,Int.ediv_one,Int.ediv_one]
   rw [e]
theorem rat_Div_c {S D S' D':Int} (h:Fit S D) (h':Fit S' D'):Ev (fun k=>rat_Div.f k (Rq S D).1 (Rq S D).2.1 (Rq S D).2.2 (Rq S' D').1 (Rq S' D').2.1 (Rq S' D').2.2) (if S'=0 then (false,[],[],4) else ((Rq (S*IS S' D') (D*ab S')).1,(Rq (S*IS S' D') (D*ab S')).2.1,(Rq (S*IS S' D') (D*ab S')).2.2,0)):=by
 refine Ev.bind (rat_Inv_c h') ?_
 by_cases hz:S'=0
 · rw [if_pos hz,if_pos hz]
   exact Ev.ifn (by decide) (Ev.same rfl)
 · rw [if_neg hz,if_neg hz]
   exact Ev.ifp rfl (Ev.bind (rat_Mul_c h (Fit_inv h' hz)) (Ev.same rfl))
end Go.Proofs.YtjocbnjpjihpnaaGreat.M
