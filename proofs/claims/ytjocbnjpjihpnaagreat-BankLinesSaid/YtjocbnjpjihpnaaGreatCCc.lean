/- What the functions answer, over plain numbers. -/
import Derived.Test.YtjocbnjpjihpnaaGreatBB
import Derived.Test.YtjocbnjpjihpnaaGreatFgradinelaw18BankLines
import Derived.Test.YtjocbnjpjihpnaaGreatFgradinelaw18same
import Derived.Test.YtjocbnjpjihpnaaGreatCCb
namespace Go.Proofs.YtjocbnjpjihpnaaGreat.M
open Go.RowKit Go.Proofs.YtjocbnjpjihpnaaGreat.P Go.Proofs.YtjocbnjpjihpnaaGreatW.AD Go.Proofs.YtjocbnjpjihpnaaGreatW.AU Go.Proofs.YtjocbnjpjihpnaaGreatW.Ac
set_option linter.unusedVariables false
section
structure LI (sq:Int->Int) (m:Int) (Ad:List A6) (i:Nat) (met t:List Bool) (n:Int) (l yl:List V5) (p:List I6) (B3:List Rat) (bits:List Int):Prop where
 ll:l.length<=i
 lt:t.length<=i
 lm:met.length<=i
 lp:p.length<=i
 li:B3.length<=i
 lb:B3.length=bits.length
 n0:0<=n
 n1:n<=i
 sz:Szs l
 vo : ∀v∈l,bK 2560 m v
 rel:Rel sq m p (iJ m B3 bits) l yl
 bd : ∀x∈B3,Bd 128 x
 bw:Ws bits
 com:Com Ad i met (λasks=>CS B3.length p asks met met.length n) yl t
theorem dR {c m:Int} {v:V5} (h:bK c m v) (hc:c<=6000):v.1.2.1.length<=1000000/\v.1.2.2.length<=1000000:=ACb (e:=0) (.inl ⟨rfl,by
 rcases h with⟨h,q,hq,r⟩ | h
 · exact .inl ⟨h,q,hq.mono hc,r⟩
 · exact .inr h⟩)
theorem dS {l:List V5} {v:V5} (h:Szs l) (hv:v.1.2.1.length<=1000000/\v.1.2.2.length<=1000000):Szs (l++ [v]):=λu hu=>by
 rcases AQM.1 hu with h2 | h2
 · exact h u h2
 · rw[ARW.1 h2];exact hv
theorem WZ {α:Type} {P:α->Prop} {l:List α} {v:α} (h : ∀x∈l,P x) (hv:P v) : ∀x∈l++ [v],P x:=λu hu=>by
 rcases AQM.1 hu with h2 | h2
 · exact h u h2
 · rw[ARW.1 h2];exact hv
theorem AAd {m:Int} {B3:List Rat} {bits:List Int} {P Q W:Int} :iJ m (B3++ [(P:Rat)/(Q:Rat)]) (bits++ [W])=iJ m B3 bits++ [rY m P Q W]:=by
 unfold iJ rY;by_cases h:m=0
 · rw[if_pos h,if_pos h,if_pos h,AQu];rfl
 · rw[if_neg h,if_neg h,if_neg h,AQu];rfl
theorem rZ {m:Int} {B3:List Rat} {bits:List Int} (h:B3.length=bits.length):(iJ m B3 bits).length=B3.length:=by
 unfold iJ;by_cases hm:m=0
 · rw[if_pos hm,AQi]
 · rw[if_neg hm,AQi,h]
section
variable {sq:Int->Int} {m:Int} {Ad:List A6} {i:Nat} {met t:List Bool} {n:Int} {l yl:List V5} {p:List I6} {B3:List Rat} {bits:List Int}
theorem LI.out (I:LI sq m Ad i met t n l yl p B3 bits) (hL:Ad.length<=60) (hi:i<Ad.length) (h : ¬Can (Ad.getD i zA).1 (Ad.getD i zA).2.1 (Ad.getD i zA).2.2.1 l.length\/(Ad.getD i zA).1<0\/(Ad.getD i zA).1=2\/11<(Ad.getD i zA).1):LI sq m Ad (i+1) met t n l yl p B3 bits :=
 {ll:=by have:=I.ll;omega,lt:=by have:=I.lt;omega,lm:=by have:=I.lm;omega,lp:=by have:=I.lp;omega,li:=by have:=I.li;omega,lb:=I.lb,n0:=I.n0,n1:=by have:=I.n1;omega,sz:=I.sz,vo:=I.vo,rel:=I.rel,bd:=I.bd,bw:=I.bw,
  com:=I.com.next hL hi (AQ4 _) λasks h1 h2=>rj (by rw[I.rel.len];exact h)}
theorem LI.lit (I:LI sq m Ad i met t n l yl p B3 bits) (hL:Ad.length<=60) (hi:i<Ad.length) (hK:(Ad.getD i zA).1=0) (ha:AOk (Ad.getD i zA)) (hQ:(Ad.getD i zA).2.2.2.2.1≠0) (hv:bK 2560 m (rY m (Ad.getD i zA).2.2.2.1 (Ad.getD i zA).2.2.2.2.1 (Ad.getD i zA).2.2.2.2.2)) :
 LI sq m Ad (i+1) met t n (l++ [rY m (Ad.getD i zA).2.2.2.1 (Ad.getD i zA).2.2.2.2.1 (Ad.getD i zA).2.2.2.2.2]) (yl++ [rv p.length]) (p++ [(1,(B3.length:Int),0,false,[],[])]) (B3++ [((Ad.getD i zA).2.2.2.1:Rat)/((Ad.getD i zA).2.2.2.2.1:Rat)]) (bits++ [(Ad.getD i zA).2.2.2.2.2]):=by
 have hli:=I.li;have hlp:=I.lp;have R:=I.rel.lit (v:=rY m (Ad.getD i zA).2.2.2.1 (Ad.getD i zA).2.2.2.2.1 (Ad.getD i zA).2.2.2.2.2) (by rw[rZ I.lb];omega);rw[rZ I.lb,<-AAd] at R;have e:((B3++ [((Ad.getD i zA).2.2.2.1:Rat)/((Ad.getD i zA).2.2.2.2.1:Rat)]).length:Int)=(B3.length:Int)+1:=by rw[Bj];rfl
 refine {ll:=by have:=I.ll;rw[Bj];omega,lt:=by have:=I.lt;omega,lm:=by have:=I.lm;omega,lp:=by rw[Bj];omega,li:=by rw[Bj];omega,lb:=by rw[Bj,Bj,I.lb],n0:=I.n0,n1:=by have:=I.n1;omega,sz:=dS I.sz (dR hv (by omega)),vo:=WZ I.vo hv,rel:=R,bd:=WZ I.bd (dU ha.1 ha.2.1 hQ),bw:=RU.2 ⟨I.bw,JB ha.2.2⟩,com:=I.com.next hL hi (AQ4 _) λasks h1 h2=> ?_};rw[e];exact rm hK (by rw[I.rel.len];have:=I.ll;omega) (AI9 (by omega) (by omega) _ _ _)
theorem LI.num (I:LI sq m Ad i met t n l yl p B3 bits) (hL:Ad.length<=60) (hi:i<Ad.length) (hK:(Ad.getD i zA).1=1) (ha:AOk (Ad.getD i zA)) (hQ:(Ad.getD i zA).2.2.2.2.1≠0) (hv:bK 2560 m (dV m (en (((Ad.getD i zA).2.2.2.1:Rat)/((Ad.getD i zA).2.2.2.2.1:Rat))))) :
 LI sq m Ad (i+1) met t n (l++ [dV m (en (((Ad.getD i zA).2.2.2.1:Rat)/((Ad.getD i zA).2.2.2.2.1:Rat)))]) (yl++ [rv p.length]) (p++ [(2,0,0,en (((Ad.getD i zA).2.2.2.1:Rat)/((Ad.getD i zA).2.2.2.2.1:Rat)))]) B3 bits:=by
 have hlp:=I.lp;exact {ll:=by have:=I.ll;rw[Bj];omega,lt:=by have:=I.lt;omega,lm:=by have:=I.lm;omega,lp:=by rw[Bj];omega,li:=by have:=I.li;omega,lb:=I.lb,n0:=I.n0,n1:=by have:=I.n1;omega,sz:=dS I.sz (dR hv (by omega)),vo:=WZ I.vo hv,rel:=I.rel.num (dU ha.1 ha.2.1 hQ),bd:=I.bd,bw:=I.bw,com:=I.com.next hL hi (AQ4 _) λasks h1 h2=>dW hK (by rw[I.rel.len];have:=I.ll;omega) (AJA (by omega) ha.1 ha.2.1 hQ)}
theorem LI.op (I:LI sq m Ad i met t n l yl p B3 bits) (hL:Ad.length<=60) (hi:i<Ad.length) (hK:3<=(Ad.getD i zA).1/\(Ad.getD i zA).1<=10) (hc:Can (Ad.getD i zA).1 (Ad.getD i zA).2.1 (Ad.getD i zA).2.2.1 l.length)
 (h7:m=0->(Ad.getD i zA).1<=7/\((Ad.getD i zA).1=7->de (dX l (Ad.getD i zA).2.2.1).1≠0)) (hv:bK 2560 m (m6 sq m (Ad.getD i zA).1 (dX l (Ad.getD i zA).2.1) (dX l (Ad.getD i zA).2.2.1))) :
 ∃p',LI sq m Ad (i+1) met t (n+1) (l++ [m6 sq m (Ad.getD i zA).1 (dX l (Ad.getD i zA).2.1) (dX l (Ad.getD i zA).2.2.1)]) (yl++ [rv p.length]) p' B3 bits:=by
 have hlp:=I.lp;have hll:=I.ll;have hn0:=I.n0;have hn1:=I.n1;have hA:=hc.1 (by omega);have hcy:Can (Ad.getD i zA).1 (Ad.getD i zA).2.1 (Ad.getD i zA).2.2.1 yl.length:=by rw[I.rel.len];exact hc
 obtain⟨r,r1,r2,r3⟩:=I.rel.back hA.1 hA.2;have mk : ∀p':List I6,p'.length=p.length+1->Rel sq m p' (iJ m B3 bits) (l++ [m6 sq m (Ad.getD i zA).1 (dX l (Ad.getD i zA).2.1) (dX l (Ad.getD i zA).2.2.1)]) (yl++ [rv p.length])->(∀asks:List Bool,Ev (dY (CS B3.length p asks met met.length n) (Ad.getD i zA).1 (dX yl (Ad.getD i zA).2.1) (dX yl (Ad.getD i zA).2.2.1)) (wv (rv p.length) (CS B3.length p' asks met met.length (n+1))))->LI sq m Ad (i+1) met t (n+1) (l++ [m6 sq m (Ad.getD i zA).1 (dX l (Ad.getD i zA).2.1) (dX l (Ad.getD i zA).2.2.1)]) (yl++ [rv p.length]) p' B3 bits:=λp' hp R E =>
  {ll:=by rw[Bj];omega,lt:=by have:=I.lt;omega,lm:=by have:=I.lm;omega,lp:=by omega,li:=by have:=I.li;omega,lb:=I.lb,n0:=by omega,n1:=by omega,sz:=dS I.sz (dR hv (by omega)),vo:=WZ I.vo hv,rel:=R,bd:=I.bd,bw:=I.bw,
   com:=I.com.next hL hi (AQ4 _) λasks h1 h2=>m7 hK hcy (by rw[I.rel.len];omega) (E asks)}
 by_cases h2:4<=(Ad.getD i zA).1/\(Ad.getD i zA).1<=7
 · have hB:=hc.2 (.inl h2)
   obtain⟨s,s1,s2,s3⟩:=I.rel.back hB.1 hB.2;refine⟨_,mk (p++ [((Ad.getD i zA).1,(r:Int),(s:Int),false,[],[])]) (Bj _ _) (I.rel.op hK.1 hK.2 (λz=>(h7 z).1) r1 s1 r3 (λ_=>s3) (λz=>absurd h2 z) (λz h=>(h7 z).2 h)) λasks=> ?_⟩;rw[r2];exact ACc (by omega) (by omega) hK.1 hK.2 (by omega) (by omega) (λ_=>⟨s2,by omega,by omega⟩) (λz=>absurd h2 z)
 · refine⟨_,mk (p++ [((Ad.getD i zA).1,(r:Int),((0:Nat):Int),false,[],[])]) (Bj _ _) (I.rel.op hK.1 hK.2 (λz=>(h7 z).1) r1 (by omega) r3 (λz=>absurd z h2) (λ_=>rfl) (λz h=>(h7 z).2 h)) λasks=> ?_⟩
   rw[r2];exact ACc (by omega) (by omega) hK.1 hK.2 (by omega) (by omega) (λz=>absurd z h2) (λ_=>rfl)
theorem LI.less (I:LI sq m Ad i met t n l yl p B3 bits) (hL:Ad.length<=60) (hi:i<Ad.length) (hK:(Ad.getD i zA).1=11) (hc:Can (Ad.getD i zA).1 (Ad.getD i zA).2.1 (Ad.getD i zA).2.2.1 l.length) (b:Bool):LI sq m Ad (i+1) (met++ [b]) (t++ [b]) n l yl p B3 bits:=by
 have hlm:=I.lm;have hlt:=I.lt;have hll:=I.ll;have hA:=hc.1 (by omega);have hB:=hc.2 (.inr hK);have hcy:Can (Ad.getD i zA).1 (Ad.getD i zA).2.1 (Ad.getD i zA).2.2.1 yl.length:=by rw[I.rel.len];exact hc
 obtain⟨r,r1,r2,r3⟩:=I.rel.back hA.1 hA.2;obtain⟨s,s1,s2,s3⟩:=I.rel.back hB.1 hB.2;refine {ll:=by omega,lt:=by rw[Bj];omega,lm:=by rw[Bj];omega,lp:=by have:=I.lp;omega,li:=by have:=I.li;omega,lb:=I.lb,n0:=I.n0,n1:=by have:=I.n1;omega,sz:=I.sz,vo:=I.vo,rel:=I.rel,bd:=I.bd,bw:=I.bw,com:=I.com.next hL hi (Kv _ _) λasks h1 h2=>jv hK hcy (by rw[I.rel.len];omega) (by omega) ?_};have e:asks.getD met.length false=b:=by rw[RW h1 (by rw[Bj];omega),JN]
 have le:=h1.length_le;rw[Bj] at le;have L:=AHg (i:=B3.length) (p:=p) (ak:=asks) (met:=met) (ad:=met.length) (n:=n) (r:=r) (r2:=s) (by omega) (by omega) (by omega) (by omega) (by omega) (by omega) (by omega) h2;rw[APr,e] at L;rw[r2,s2,Bj];exact L
end
theorem AJB {met:List Bool} (h:met.length<=1000):Ev (λk=>Gv.f k 2 met) (false,2,0,met,0,0,false,0):=Ev.AO (by omega) (Ev.AO (by omega) (Ev.AI (by simp;omega) (Ev.same rfl)))
theorem ACd {m i:Int} {p:List I6} {ak met:List Bool} {ad n:Int} {tie:Bool} {e:Int} (h:met.length<=1000):Ev (λk=>D4.f k m i p ak met ad n tie e) (met,m,i,p,ak,met,ad,n,tie,e):=Ev.AI (by simp;omega) (Ev.same rfl)
theorem AAe {sq:Int->Int} (y8:Z8 sq) {m:Int} (hm:m=0\/m=1) {Ad:List A6} (hL:Ad.length<=60) (hsame:Ev (λk=>AR.f k) true) {i:Nat} (hi:i=Ad.length) {met t:List Bool} {n:Int} {tie:Bool} {l yl:List V5} {p:List I6} {B3:List Rat} {bits:List Int} (I:LI sq m Ad i met t n l yl p B3 bits) :
 Ev (l0F m Ad (B3.map en) bits i l t (BS m met n tie 0)) true:=by
 have hlm:=I.lm;have hll:=I.ll;have hlp:=I.lp;have hli:=I.li;have hS : ∀x∈p,m8 x:=λx hx=>by
  obtain⟨j,hj,rfl⟩:=ASG hx;have:=(I.rel.fit j hj).2.1
  rwa [Cp hj] at this
 refine Ev.step (λk=>AL.l0.eq_2 ..) (Ev.AO (by omega) (Ev.bind (ACd (met:=met) (by omega)) (Ev.bind (AJB (met:=met) (by omega)) (Ev.AO ff ?_))));refine I.com met (AQ4 _) (by omega) m (B3.map en) bits l t (BS m met n tie 0) ?_;refine Ev.step (λk=>AL.l1.eq_2 ..) (Ev.AO (by omega) ?_);refine Ev.bind (a:=(0,CS B3.length p met met met.length n)) ⟨0,λ_ _=>rfl⟩ (Ev.AI rfl ?_);refine Ev.bind (a:=(n,CS B3.length p met met met.length n)) ⟨0,λ_ _=>rfl⟩ (Ev.bind (a:=(n,BS m met n tie 0)) ⟨0,λ_ _=>rfl⟩ (Ev.AI rfl ?_));refine Ev.bind (ACd (met:=met) (by omega)) (Ev.bind (ACd (met:=met) (by omega)) (Ev.bind (AE8 (l:=met) (by omega)) (Ev.AI rfl ?_)));exact Ev.bind (AAf (by omega) hS p.length 0 (by omega)) (Ev.bind (AE9 y8 hm I.rel (by omega) (by omega) I.bd I.bw (by omega) I.sz) (Ev.AI rfl (Ev.bind hsame (Ev.same rfl))))
theorem ACa {sq:Int->Int} (y8:Z8 sq) {m:Int} (hm:m=0\/m=1) {Ad:List A6} (hL:Ad.length<=60) (hw : ∀a∈Ad,AOk a) (hsame:Ev (λk=>AR.f k) true) (d:Nat) : ∀(i:Nat) (met t:List Bool) (n:Int) (tie:Bool) (l yl:List V5) (p:List I6) (B3:List Rat) (bits:List Int),i+d=Ad.length->LI sq m Ad i met t n l yl p B3 bits ->
 Ev (l0F m Ad (B3.map en) bits i l t (BS m met n tie 0)) true:=by
 induction d with
 | zero =>
   intro i met t n tie l yl p B3 bits h I;exact AAe y8 hm hL hsame (by omega) I
 | succ d ih =>
   intro i met t n tie l yl p B3 bits h I;have hi:i<Ad.length:=(by omega);have hll:=I.ll;have hlt:=I.lt;have hlm:=I.lm;have ha:AOk (Ad.getD i zA):=(by rw[Cp hi];exact hw _ (AQ5 _));by_cases h0:(Ad.getD i zA).1=0
   · refine AHh hsame hL hi h0 ha (by rw[AQi];have:=I.li;omega) (by rw[<-I.lb];have:=I.li;omega) (λhQ=>rm h0 (by omega) (AGG hm ha.1 ha.2.1 ha.2.2 hQ).1) rfl (by rw[Bj];omega) λhQ=> ?_
     rw[rz];exact ih (i+1) _ _ _ _ _ _ _ _ _ (by omega) (I.lit hL hi h0 ha hQ (AGG (met:=met) (n:=n) (tie:=tie) hm ha.1 ha.2.1 ha.2.2 hQ).2)
   by_cases hout : ¬Can (Ad.getD i zA).1 (Ad.getD i zA).2.1 (Ad.getD i zA).2.2.1 l.length\/(Ad.getD i zA).1<0\/(Ad.getD i zA).1=2\/11<(Ad.getD i zA).1
   · exact bL hsame hL hi h0 (rj hout) rfl (by omega) λ_=>ih (i+1) _ _ _ _ _ _ _ _ _ (by omega) (I.out hL hi hout)
   have hc:Can (Ad.getD i zA).1 (Ad.getD i zA).2.1 (Ad.getD i zA).2.2.1 l.length:=Classical.byContradiction λz=>hout (.inl z)
   have hr : ¬((Ad.getD i zA).1<0\/(Ad.getD i zA).1=2\/11<(Ad.getD i zA).1):=λz=>hout (.inr z)
   by_cases h1:(Ad.getD i zA).1=1
   · obtain⟨N1,N2⟩:=AJC (met:=met) (n:=n) (tie:=tie) hm ha.1 ha.2.1
     by_cases hQ:(Ad.getD i zA).2.2.2.2.1=0
     · exact ACe hsame hi h0 (dW h1 (by omega) (N2 hQ)) (show(4:Int)≠0 by decide)
     · exact bL hsame hL hi h0 (dW h1 (by omega) (N1 hQ).1) rfl (by rw[Bj];omega) λ_=>ih (i+1) _ _ _ _ _ _ _ _ _ (by omega) (I.num hL hi h1 ha hQ (N1 hQ).2)
   by_cases h11:(Ad.getD i zA).1=11
   · have hA:=hc.1 (by omega)
     have hB:=hc.2 (.inr h11);obtain⟨b,t',E⟩:=AHi (met:=met) (n:=n) (tie:=tie) hm (I.vo _ (bM hA.1 hA.2)) (I.vo _ (bM hB.1 hB.2)) (by omega);exact bL hsame hL hi h0 (jv h11 hc (by omega) (by omega) E) rfl (by omega) λ_=>ih (i+1) _ _ _ _ _ _ _ _ _ (by omega) (I.less hL hi h11 hc b)
   have hK:3<=(Ad.getD i zA).1/\(Ad.getD i zA).1<=10:=(by omega);have hA:=hc.1 (by omega);rcases AHj (met:=met) (n:=n) (tie:=tie) y8 hm hK.1 hK.2 (I.vo _ (bM hA.1 hA.2)) (y:=dX l (Ad.getD i zA).2.2.1) (λh=>I.vo _ (bM (hc.2 (.inl h)).1 (hc.2 (.inl h)).2)) (by have:=I.n0;have:=I.n1;omega) with⟨E,hv,h7⟩ | ⟨e,he,E⟩
   · refine bL hsame hL hi h0 (m7 hK hc (by omega) E) rfl (by rw[Bj];omega) λAJD=> ?_
     have hs:=AJD _ (APu _ (ARW.2 rfl));obtain⟨p',I'⟩:=I.op hL hi hK hc h7 (AAg hv hs.1 hs.2);exact ih (i+1) _ _ _ _ _ _ _ _ _ (by omega) I'
   · exact ACe hsame hi h0 (m7 hK hc (by omega) E) he
end
end Go.Proofs.YtjocbnjpjihpnaaGreat.M
