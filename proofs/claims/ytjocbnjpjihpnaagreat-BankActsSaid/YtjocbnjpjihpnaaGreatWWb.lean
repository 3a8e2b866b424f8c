/- Words for walks over printed functions: those that are used here, as a program has laid them. -/
import Derived.Test.YtjocbnjpjihpnaaGreatWWa
import Derived.MapKept
import Derived.Carry
set_option linter.unusedSimpArgs false
section
namespace Go.Proofs.YtjocbnjpjihpnaaGreatW.Ic
open Go.RowKit Go.Proofs.YtjocbnjpjihpnaaGreatW.AH Go.Proofs.YtjocbnjpjihpnaaGreatW.AX Go.Proofs.YtjocbnjpjihpnaaGreatW.Ad
set_option linter.unusedVariables false
set_option linter.unusedSectionVars false
section
theorem NO {P:Program} (g:Nat) (t:TypeId) (o:Nat) : ∀(vs:List Value) (i:Nat) (cur:List Value) (w:World),w.heap[g]? =some (.cells cur.toArray t (0,0))->o+i+vs.length<=cur.length->(∀v∈vs,v.oneCell'=true) ->
 ∃w',(storeCells ⟨g,o,none⟩ vs i).run P w= .ok () w'/\w'.heap[g]? =some (.cells (cur.take (o+i)++vs++cur.drop (o+i+vs.length)).toArray t (0,0))/\w'.heap.size=w.heap.size/\(∀q,q≠g->w'.heap[q]? =w.heap[q]?)/\w'.os=w.os/\w'.tape=w.tape/\w'.output=w.output
 | [],i,cur,w,hg,hl,_=>⟨w,rfl,by simp[hg],rfl,λ_ _=>rfl,rfl,rfl,rfl⟩
 | v::rest,i,cur,w,hg,hl,h1=>by
   have hl':o+i<cur.length:=(by simp at hl;omega);have hcell:w.cell? ⟨g,o+i,none⟩=some cur[o+i]:=by
    rw[MI hg];simp[hl']
   have hfr:=iM hg (o+i);have hst:(store ((⟨g,o,none⟩:Addr).add i) v).run P w= .ok () (w.setCell ⟨g,o+i,none⟩ v):=by
    rw[KI,run_store P w _ v _ (h1 v (by simp)),hcell];simp[hfr]
   have hg2:(w.setCell ⟨g,o+i,none⟩ v).heap[g]? =some (.cells (cur.set (o+i) v).toArray t (0,0)):=by
    rw[ABj hg];simp
   obtain⟨w',q1,q2,q3,q4,q5,q6,q7⟩:=NO (P:=P) g t o rest (i+1) (cur.set (o+i) v) (w.setCell ⟨g,o+i,none⟩ v) hg2 (by simp at hl ⊢;omega) (λx hx=>h1 x (by simp[hx]));refine⟨w', ?_, ?_, ?_,λq hq=>(q4 q hq).trans (Below.heap_setCell _ _ _ _ hq),q5,q6,q7⟩
   · simp only[storeCells,Sem.run_bind,hst,Result.andThen_ok,q1]
   · rw[q2]
     congr 3
     apply AVK;intro m;simp only[AV0,AUR,AUJ,AUz,AUu,AUf,AUh,AWI];simp only[AUu] at hl;rcases AXM m (o+i) with hm | hm | hm
     · simp[show m<min (o+(i+1)) cur.length+rest.length by omega,show m<min (o+(i+1)) cur.length by omega,show m<o+(i+1) by omega,show m<min (o+i) cur.length+(rest.length+1) by omega,show m<min (o+i) cur.length by omega,show m<o+i by omega,show o+i≠m by omega]
     · subst hm
       simp[show o+i<min (o+(i+1)) cur.length+rest.length by omega,show o+i<min (o+(i+1)) cur.length by omega,show o+i<o+(i+1) by omega,show o+i<min (o+i) cur.length+(rest.length+1) by omega,show¬o+i<min (o+i) cur.length by omega,hl',show o+i-min (o+i) cur.length=0 by omega]
     · by_cases hm2:m<o+(i+1)+rest.length
       · simp[show m<min (o+(i+1)) cur.length+rest.length by omega,show¬m<min (o+(i+1)) cur.length by omega,show m<min (o+i) cur.length+(rest.length+1) by omega,show¬m<min (o+i) cur.length by omega,show m-min (o+i) cur.length=(m-min (o+(i+1)) cur.length)+1 by omega]
       · simp[show¬m<min (o+(i+1)) cur.length+rest.length by omega,show¬m<min (o+i) cur.length+(rest.length+1) by omega,show o+(i+1)+rest.length+(m-(min (o+(i+1)) cur.length+rest.length))=o+i+(rest.length+1)+(m-(min (o+i) cur.length+(rest.length+1))) by omega]
         intro hc;exact absurd hc (by omega)
   · rw[q3];simp[World.setCell]
section
variable {P:Program} {Θ:Lz} {S:FuncId->Option FE} {k:Nat} {o:Oper} {U0:Nat->Prop} {ν:Nat->Value} {tm:List AV} {hp:List AB} {w0:St} {w:World} {a:Act} {R:Type} {K:AV->HC->Tree R} {r:R}
theorem Inv.AHy (I:Inv U0 ν tm hp w0 a w) {j g:Nat} {b0 b:AB} {w':World} (hb0:hp[j]? =some b0) (hg0:FI b0=false) (hg:FI b=false) (hν:DO (ν j)=some g) (hs:w'.heap.size=w.heap.size) (hk : ∀q,q≠g->w'.heap[q]? =w.heap[q]?)
 (hF:Since w0 w') (hfx:TO b0=true->TO b=true) (hB:Move (Un U0 ν (lv hp)) w w' (Un U0 ν (lv hp))->V2 U0 ν (lv hp) w0 w' j b) (d:Option Tmp) (v:Value):Inv U0 ν (OX tm d .GZ) (hp.set j b) w0 (a.put d v) w':=by
 have hj:lv hp j:=⟨b0,hb0,hg0⟩;have el:=AEY hj hg;have hlt:=(AUI.1 hb0).1;have hun:Un U0 ν (lv hp) g:= .inr ⟨j,hj,hν⟩;have m:Move (Un U0 ν (lv hp)) w w' (Un U0 ν (lv hp)):=⟨by omega,λq _ hu=>hk q (λz=>hu (z▸hun)),λ_ _ z=>z⟩;refine I.put d .GZ v (by rw[el];exact m) (by rw[el];exact VR) trivial (λi b' h1 h2=> ?_) (by rw[el];exact I.zI) hF (I.fx.AEX λi b' h1 h2=>⟨rfl, ?_⟩);rotate_left
 · by_cases hij:j=i
   · subst hij
     rw[hb0] at h1;injection h1 with h1;subst h1;exact⟨b,AU7 hlt,hfx h2⟩
   · exact⟨b',by rw[AUc hij];exact h1,h2⟩
 rw[el];by_cases hij:j=i
 · subst hij
   rw[AU7 hlt] at h1;injection h1 with h1;subst h1;exact hB m
 · rw[AUc hij] at h1
   refine(I.mem i b' h1 h2).move m VR rfl λq hq=>hk q λz=> ?_
   subst z;exact I.zI j i hij hj ⟨b',h1,h2⟩ q hν hq
def Ph (hp:List AB) (l:List (Nat × AB)):Prop:= ∀p∈l,∃e t xs,hp[p.1]? =some (.row .mine e t xs)/\p.2= .iY e t xs
theorem Mm : ∀(cs:List AC),Ph hp (Mv hp cs)
 | []=>λp h=>by simp[Mv] at h
 | c::cs=>by
   intro p h;cases c with
   | own j =>
     simp only[Mv] at h;split at h
     · rename_i e t xs hb
       rcases AUH.1 h with rfl | h
       · exact⟨e,t,xs,hb,rfl⟩
       · exact Mm cs p h
     · exact Mm cs p h
   | _=>exact Mm cs p h
theorem Ph.app {l l':List (Nat × AB)} (h:Ph hp l) (h':Ph hp l'):Ph hp (l++l'):=λp q=>(AUj.1 q).elim (h p) (h' p)
theorem YX : ∀(os:List Operand),Ph hp (Jk hp tm os)
 | []=>λp h=>by simp[Jk] at h
 | o::os=>(Mm _).app (YX os)
theorem Gw : ∀ {l:List (Nat × AB)},Ph hp l-> ∀j,(Dx l hp)[j]? =hp[j]? \/ ∃e t xs,hp[j]? =some (.row .mine e t xs)/\(Dx l hp)[j]? =some (.iY e t xs)/\LK l j=true
 | [],_,j=> .inl rfl
 | (i,b)::l,h,j=>by
   have ih:=Gw (l:=l) (λp q=>h p (AUB _ q));obtain⟨e,t,xs,h1,h2⟩:=h (i,b) AUC;have h1:hp[i]? =some (.row .mine e t xs):=h1;have h2:b= .iY e t xs:=h2;subst h2;have hlt:i<(Dx l hp).length:=by
    rcases ih i with q | ⟨_,_,_,_,q,_⟩
    · rw[h1] at q;exact(AUI.1 q).1
    · exact(AUI.1 q).1
   by_cases hij:i=j
   · subst hij
     exact .inr ⟨e,t,xs,h1,by simp[Dx,hlt],by simp[LK]⟩
   · simp only[Dx,AUc hij]
     rcases ih j with q | ⟨e,t,xs,q1,q2,q3⟩
     · exact .inl q
     · exact .inr ⟨e,t,xs,q1,q2,by simp[LK,q3]⟩
theorem qj {l:List (Nat × AB)} (h:Ph hp l) {j:Nat} (hj:LK l j=true) : ∃e t xs,(Dx l hp)[j]? =some (.iY e t xs):=by
 induction l with
 | nil=>simp[LK] at hj
 | cons p l ih =>
   obtain⟨i,b⟩:=p;have hl:Ph hp l:=λp q=>h p (AUB _ q)
   obtain⟨e,t,xs,h1,h2⟩:=h (i,b) AUC;have h2:b= .iY e t xs:=h2;have h1:hp[i]? =some (.row .mine e t xs):=h1;subst h2;have hlt:i<(Dx l hp).length:=by
    rcases Gw hl i with q | ⟨_,_,_,_,q,_⟩
    · rw[h1] at q;exact(AUI.1 q).1
    · exact(AUI.1 q).1
   by_cases hij:i=j
   · subst hij
     exact⟨e,t,xs,by simp[Dx,hlt]⟩
   · simp[LK,hij] at hj
     obtain⟨e',t',xs',q⟩:=ih hl hj;exact⟨e',t',xs',by simp only[Dx,AUc hij];exact q⟩
theorem Inv.KD (I:Inv U0 ν tm hp w0 a w) (hU : ∀k,U0 k->k<w0.heap.size) : ∀ {l:List (Nat × AB)},Ph hp l-> ∃ν',Inv U0 ν' tm (Dx l hp) w0 a w
 | [],_=>⟨ν,I⟩
 | (i,b)::l,h=>by
   have hl:Ph hp l:=λp q=>h p (AUB _ q)
   obtain⟨ν',I'⟩:=I.KD hU hl;obtain⟨e,t,xs,h1,h2⟩:=h (i,b) AUC;have h2:b= .iY e t xs:=h2;have h1:hp[i]? =some (.row .mine e t xs):=h1;subst h2;rcases Gw hl i with q | ⟨e',t',xs',q1,q2,_⟩
   · exact⟨_,I'.AHg hU (q.trans h1)⟩
   · rw[h1] at q1
     injection q1 with q1;cases q1;refine⟨ν', ?_⟩;have:(Dx l hp).set i (.iY e t xs)=Dx l hp:=by
      apply AVK;intro m;by_cases hm:i=m
      · subst hm;rw[AU7 (AUI.1 q2).1,q2]
      · rw[AUc hm]
     show Inv U0 ν' tm ((Dx l hp).set i (.iY e t xs)) w0 a w;rw[this];exact I'
theorem AAE {l:List (Nat × AB)} (h:Ph hp l) (j:Nat) (e:TypeId) (t:Ty):ownRow (Dx l hp) j e t=ownRow hp j e t:=by
 unfold ownRow;rcases Gw h j with q | ⟨e',t',xs,q1,q2,_⟩
 · rw[q]
 · rw[q1,q2]
theorem VX {hp CY:List AB} : ∀ {t:Ty} {cs:List AC},(∀j e t,AC.own j∈cs->ownRow hp j e t=ownRow CY j e t)->Fk hp t cs=Fk CY t cs/\ ∀x rest,Fk hp t cs=some (x,rest)-> ∀c∈rest,c∈cs
 | .cons p q,cs,h=>by
   obtain⟨h1,h2⟩:=VX (t:=p) h;simp only[Fk,<-h1];cases OV:Fk hp p cs with
   | none=>exact⟨rfl,λx rest z=>by cases z⟩
   | some y =>
     obtain⟨x,cs'⟩:=y;have hs:=h2 x cs' OV;obtain⟨h3,h4⟩:=VX (t:=q) (cs:=cs') λj e t hj=>h j e t (hs _ hj)
     dsimp only;rw[<-h3];cases Mw:Fk hp q cs' with
     | none=>exact⟨rfl,λx rest z=>by cases z⟩
     | some y =>
       obtain⟨x2,cs2⟩:=y;refine⟨rfl,λx' rest z c hc=>hs c (h4 x2 cs2 Mw c ?_)⟩;injection z with z;injection z with _ z;subst z;exact hc
 | .int kk,cs,h=>by
   cases cs with
   | nil=>exact⟨rfl,λx rest z=>by cases z⟩
   | cons c cs =>
     cases c<;>refine⟨rfl,λx rest z=> ?_⟩<;>simp only[Fk] at z<;>try (simp at z;done)
     split at z
     · rename_i e;subst e;injection z with z;injection z with _ z;subst z;exact λc hc=>AUB _ hc
     · cases z
 | .bool,cs,h=>by
   cases cs with
   | nil=>exact⟨rfl,λx rest z=>by cases z⟩
   | cons c cs =>
     cases c<;>refine⟨rfl,λx rest z=> ?_⟩<;>simp only[Fk] at z<;>try (simp at z;done)
     split at z
     · rename_i e;subst e;injection z with z;injection z with _ z;subst z;exact λc hc=>AUB _ hc
     · cases z
 | .str,cs,h=>by
   cases cs with
   | nil=>exact⟨rfl,λx rest z=>by cases z⟩
   | cons c cs =>
     cases c<;>refine⟨rfl,λx rest z=> ?_⟩<;>simp only[Fk] at z<;>try (simp at z;done)
     split at z
     · rename_i e;subst e;injection z with z;injection z with _ z;subst z;exact λc hc=>AUB _ hc
     · cases z
 | .row e t,cs,h=>by
   cases cs with
   | nil=>exact⟨rfl,λx rest z=>by cases z⟩
   | cons c cs =>
     cases c with
     | own j =>
       have:=h j e t AUC;simp only[Fk,<-this];refine⟨trivial,λx rest z=> ?_⟩;split at z
       · injection z with z;injection z with _ z;subst z;exact λc hc=>AUB _ hc
       · cases z
     | CA =>
       refine⟨rfl,λx rest z=> ?_⟩;simp only[Fk] at z;injection z with z;injection z with _ z;subst z;exact λc hc=>AUB _ hc
     | ro t' y =>
       refine⟨rfl,λx rest z=> ?_⟩;simp only[Fk] at z;split at z
       · rename_i e;subst e;injection z with z;injection z with _ z;subst z;exact λc hc=>AUB _ hc
       · cases z
     | _=>refine⟨rfl,λx rest z=> ?_⟩;simp[Fk] at z
theorem gw {l:List (Nat × AB)} (h:Ph hp l) (t:Ty) (cs:List AC):Fk (Dx l hp) t cs=Fk hp t cs:=(VX λj e t _=>AAE h j e t).1
def C6 (U:Nat->Prop) (ν:Nat->Value) (hp:List AB) (cs:List AC):Prop:= ∀j e t xs,AC.own j∈cs->hp[j]? =some (.row .mine e t xs)-> ∀k,DO (ν j)=some k-> ¬U k
theorem AAF (I:Inv U0 ν tm hp w0 a w) {U:Nat->Prop} (hU : ∀k,k<w.heap.size->U k->Un U0 ν (lv hp) k) {j:Nat} {e:TypeId} {t:Ty} {xs:List (T t)} {v:Value} (h:ownRow hp j e t=some xs) (hv:DA U0 ν (lv hp) w (.own j) v) (hm : ∀e t xs,hp[j]? =some (.row .mine e t xs)-> ∀k,DO (ν j)=some k-> ¬U k):Rd U w (.row e t) xs [v]:=by
 obtain⟨hj,hv⟩:=hv;unfold ownRow at h;split at h
 · rename_i e' t' ys hb
   split at h
   · rename_i q
     obtain⟨rfl,rfl⟩:=q;injection h with h;subst h;obtain⟨h1,A,n,h2⟩:=(I.mem j _ hb rfl).N0 (U:=U) λk hk hu=>⟨hU k hk hu,λz=>hm _ _ _ hb k z hu⟩
     have:v=ν j:=(by rw[hv,h2];rfl);rw[this];exact h1
   · cases h
 · rename_i e' t' ys hb
   split at h
   · rename_i q
     obtain⟨rfl,rfl⟩:=q;injection h with h;subst h;obtain⟨u,h1,h2⟩:=I.mem j _ hb rfl;have:v=u:=(by rw[hv,h1];rfl);rw[this];exact h2.move ⟨AUN _,λ_ _ _=>rfl,λk hk hu=>hU k hk hu⟩
   · cases h
 · cases h
theorem NM (I:Inv U0 ν tm hp w0 a w) {U:Nat->Prop} (hU : ∀k,k<w.heap.size->U k->Un U0 ν (lv hp) k) : ∀ {t:Ty} {cs rest:List AC} {x:T t} {vs:List Value},C6 U ν hp cs->Fk hp t cs=some (x,rest)->Cj (DA U0 ν (lv hp) w) cs vs-> ∃v1 v2,vs=v1++v2/\Rd U w t x v1/\Cj (DA U0 ν (lv hp) w) rest v2/\C6 U ν hp rest
 | .cons p q,cs,rest,x,vs,hm,h,hr=>by
   simp only[Fk] at h;split at h
   · rename_i x1 cs1 h1
     split at h
     · rename_i x2 cs2 h2
       injection h with h;injection h with hx hc;subst hx hc;obtain⟨v1,v2,rfl,q1,q2,q3⟩:=NM I hU hm h1 hr;obtain⟨v3,v4,rfl,q4,q5,q6⟩:=NM I hU q3 h2 q2;exact⟨v1++v3,v4,(AVQ ..).symm,⟨v1,v3,rfl,q1,q4⟩,q5,q6⟩
     · cases h
   · cases h
 | .int kk,[],rest,x,vs,hm,h,hr=>by simp[Fk] at h
 | .bool,[],rest,x,vs,hm,h,hr=>by simp[Fk] at h
 | .str,[],rest,x,vs,hm,h,hr=>by simp[Fk] at h
 | .row e t,[],rest,x,vs,hm,h,hr=>by simp[Fk] at h
 | .int kk,c::cs,rest,x,v::vs,hm,h,hr=>by
   cases c<;>simp only[Fk] at h<;>try (simp at h;done)
   split at h
   · rename_i t' y e
     subst e;injection h with h;injection h with hx hc;subst hx hc;exact⟨[v],vs,rfl,hr.1.2,hr.2,λj e t xs hj=>hm j e t xs (AUB _ hj)⟩
   · cases h
 | .bool,c::cs,rest,x,v::vs,hm,h,hr=>by
   cases c<;>simp only[Fk] at h<;>try (simp at h;done)
   split at h
   · rename_i t' y e
     subst e;injection h with h;injection h with hx hc;subst hx hc;exact⟨[v],vs,rfl,hr.1.2,hr.2,λj e t xs hj=>hm j e t xs (AUB _ hj)⟩
   · cases h
 | .str,c::cs,rest,x,v::vs,hm,h,hr=>by
   cases c<;>simp only[Fk] at h<;>try (simp at h;done)
   split at h
   · rename_i t' y e
     subst e;injection h with h;injection h with hx hc;subst hx hc;exact⟨[v],vs,rfl,hr.1.2,hr.2,λj e t xs hj=>hm j e t xs (AUB _ hj)⟩
   · cases h
 | .row e t,c::cs,rest,x,v::vs,hm,h,hr=>by
   have hm':C6 U ν hp cs:=λj e t xs hj=>hm j e t xs (AUB _ hj)
   cases c with
   | ro t' y =>
     simp only[Fk] at h;split at h
     · rename_i e
       subst e;injection h with h;injection h with hx hc;subst hx hc;exact⟨[v],vs,rfl,hr.1.2.move ⟨AUN _,λ_ _ _=>rfl,λk hk hu=>hU k hk hu⟩,hr.2,hm'⟩
     · cases h
   | CA =>
     simp only[Fk] at h;injection h with h;injection h with hx hc;subst hx hc;have hv:v= .slice none 0 0:=hr.1;subst hv;exact⟨[_],vs,rfl,⟨none,0,rfl,AUN _,AWf _,λhn=>absurd hn (AWy 0)⟩,hr.2,hm'⟩
   | own j =>
     simp only[Fk] at h;split at h
     · rename_i ys hy
       injection h with h;injection h with hx hc;subst hx hc;exact⟨[v],vs,rfl,AAF I hU hy hr.1 (λe t xs=>hm j e t xs AUC),hr.2,hm'⟩
     · cases h
   | _=>simp[Fk] at h
 | _,_::_,_,_,[],_,_,hr=>hr.elim
theorem C6.frz {l:List (Nat × AB)} {cs:List AC} (h:Ph hp l) (hi : ∀j e t xs,AC.own j∈cs->hp[j]? =some (.row .mine e t xs)->LK l j=true) (U:Nat->Prop) (ν:Nat->Value):C6 U ν (Dx l hp) cs:=by
 intro j e t xs hj hb;rcases Gw h j with q | ⟨e',t',xs',q1,q2,_⟩
 · rw[q] at hb
   obtain⟨_,_,_,z⟩:=qj h (hi j e t xs hj hb);rw[q,hb] at z;cases z
 · rw[q2] at hb;cases hb
theorem Pj : ∀ {cs:List AC} {j:Nat} {e:TypeId} {t:Ty} {xs:List (T t)},AC.own j∈cs->hp[j]? =some (.row .mine e t xs)->LK (Mv hp cs) j=true
 | c::cs,j,e,t,xs,hj,hb=>by
   rcases AUH.1 hj with rfl | hj
   · simp[Mv,hb,LK]
   · have ih:=Pj hj hb
     cases c with
     | own i =>
       simp only[Mv];split
       · simp[LK,ih]
       · exact ih
     | _=>exact ih
theorem vU (I:Inv U0 ν tm hp w0 a w) (hU : ∀k,U0 k->k<w0.heap.size) {t:Ty} {cs rest:List AC} {x:T t} {l:List (Nat × AB)} (hl:Ph hp l) (hi : ∀j e t xs,AC.own j∈cs->hp[j]? =some (.row .mine e t xs)->LK l j=true) (h:Fk hp t cs=some (x,rest)) {ν':Nat->Value} (I':Inv U0 ν' tm (Dx l hp) w0 a w) {vs:List Value} (hr:Cj (DA U0 ν' (lv (Dx l hp)) w) cs vs) :
 ∃v1 v2,vs=v1++v2/\Rd (Un U0 ν' (lv (Dx l hp))) w t x v1/\Cj (DA U0 ν' (lv (Dx l hp)) w) rest v2:=by
 obtain⟨v1,v2,h1,h2,h3,_⟩:=NM I' (U:=Un U0 ν' (lv (Dx l hp))) (λ_ _ h=>h) (C6.frz hl hi _ _) ((gw hl t cs).trans h) hr;exact⟨v1,v2,h1,h2,h3⟩
theorem ug {α:Type} {Rr:α->List Value->Prop} {sz:Nat} {ps:List α} {cs us:List Value} {q:Nat} {y:α} (h:B9 Rr sz ps cs) (hy:Rr y us) (hu:us.length=sz) (hq:q<ps.length):B9 Rr sz (ps.set q y) (cs.take (q*sz)++us++cs.drop (q*sz+sz)):=by
 have hqs:q*sz+sz<=cs.length:=by rw[h.1,<-AVB];exact AUU _ hq
 refine⟨by have:=h.1;simp only[AUR,AUJ,AUn,hu,AUz];omega,λj p hj=> ?_⟩;rcases AXM j q with hlt | heq | hgt
 · have hjs:j*sz+sz<=q*sz:=by rw[<-AVB];exact AUU _ hlt
   rw[AUc (by omega)] at hj;have:=h.2 j p hj;rw[AVQ,AVg (by simp;omega),AVV (by simp;omega),AWi,AWM,AUa (by omega)];exact this
 · subst heq
   rw[AU7 hq] at hj;injection hj with hj;subst hj;rw[AVQ,AV7,AUi (by simp;omega),AV1,AUJ,AUa (by omega),AXC,AWO,<-hu,List.take_left];exact hy
 · have hjs:q*sz+sz<=j*sz:=by rw[<-AVB];exact AUU _ hgt
   rw[AUc (by omega)] at hj;have:=h.2 j p hj;rw[AV7,AUi (by simp;omega),AV1,AWk,AUR,AUJ,hu,AUa (by omega),show q*sz+sz+(j*sz-(q*sz+sz))=j*sz by omega];exact this
theorem vV (L v:List Value) (A n:Nat) (h:A+v.length<=n) (hn:n<=L.length):(L.take A++v++L.drop (A+v.length)).take n=(L.take n).take A++v++(L.take n).drop (A+v.length):=by
 have e1:(L.take A).length=A:=by rw[AUJ];omega
 have e2:(L.take n).take A=L.take A:=by rw[AWM,AUa (by omega)]
 rw[e2,AWi,List.take_append,AUR,e1,AUS (l:=L.take A++v) (by rw[AUR,e1];exact h)]
end
end
section
def V8 (U:Nat->Prop) (w:World):(ps:List Ty)->TT ps->List Value->Prop
 | [],_,vs=>vs= []
 | t::ts,x,v::vs=>(∃cs,v=Qm cs/\Rd U w t x.1 cs)/\V8 U w ts x.2 vs
 | _::_,_,[]=>False
def qm (U:Nat->Prop) (w:World):(rs:List Ty)->TT rs->List Value->Prop
 | [],_,us=>us= []
 | t::ts,x,u::us=>(∃cs,u=Qm cs/\Rd U w t x.1 cs)/\qm U w ts x.2 us
 | _::_,_,[]=>False
def mkR:List Value->Value
 | [u]=>u
 | us=> .tuple us.toArray
def vQ (U:Nat->Prop) (w:World) (rs:List Ty) (x:TT rs) (v:Value):Prop:= ∃us,v=mkR us/\qm U w rs x us
def qp (P:Program) (g:FuncId) (s:AQ) (k:Nat):Prop:= ∀x r,s.f k x=some r-> ∀(U:Nat->Prop) (w:World) (vs:List Value),(∀q,U q->q<w.heap.size)->V8 U w s.ps x vs ->
 Calls P g vs.toArray w (λe w'=> ∃v,e= .returned v/\vQ U w' s.rs r v/\Below w.heap.size w w')
def Mn (P:Program) (g:FuncId):Bool:=match P.funcs[g]? with
 | some fn => !(fn.name == "runtime.NumGoroutine") && fn.body.isSome
 | none=>false
def qt (U:Nat->Prop) (w:World):(fs:List FK)->FT fs->List Value->List Nat->Prop
 | [],_,us,bl=>us= []/\bl= []
 | .ty t::l,x,us,bl=> ∃v1 v2,us=v1++v2/\Rd U w t x.1 v1/\qt U w l x.2 v2 bl
 | .row _ e t::l,x,u::us,bl=> ∃inner b2,w.ownsRow 0 e (kd t).sz u (List.length x.1) inner/\B9 (λy c=>Rd U w t y c) (kd t).sz x.1 inner/\bl=(DO u).toList++b2/\qt U w l x.2 us b2
 | .row _ _ _::_,_,[],_=>False
def Sk:List FK->List Value->List Value->Prop
 | .ty t::l,us,vs=>Sk l (us.drop t.size) (vs.drop t.size)
 | .row true _ _::l,u::us,v::vs=>v=u/\Sk l us vs
 | .row false _ _::l,_::us,_::vs=>Sk l us vs
 | _,_,_=>True
def AAA (U:Nat->Prop) (w:World):(ps:List PK)->PT ps->List Value->List Nat->Prop
 | [],_,vs,bl=>vs= []/\bl= []
 | .ty t::l,x,v::vs,bl=>(∃cs,v=Qm cs/\Rd U w t x.1 cs)/\AAA U w l x.2 vs bl
 | .st e fs::l,x,v::vs,bl=> ∃g us b1 b2,v= .pointer (some ⟨g,0,none⟩)/\w.heap[g]? =some (.cells us.toArray e (0,0))/\qt U w fs x.1 us b1/\bl=g::(b1++b2)/\AAA U w l x.2 vs b2
 | .Ml e t::l,x,v::vs,bl=> ∃inner b2,w.ownsRow 0 e (kd t).sz v (List.length x.1) inner/\B9 (λy c=>Rd U w t y c) (kd t).sz x.1 inner/\bl=(DO v).toList++b2/\AAA U w l x.2 vs b2
 | _::_,_,[],_=>False
def AAB (U:Nat->Prop) (w w':World):(ps:List PK)->ET ps->List Value->List Nat->Prop
 | [],_,vs,bl=>vs= []/\bl= []
 | .ty t::l,x,_::vs,bl=>AAB U w w' l x vs bl
 | .st e fs::l,x,v::vs,bl=> ∃g us us' b1 b2,v= .pointer (some ⟨g,0,none⟩)/\w.heap[g]? =some (.cells us.toArray e (0,0))/\w'.heap[g]? =some (.cells us'.toArray e (0,0))/\qt U w' fs x.1 us' b1/\Sk fs us us'/\bl=g::(b1++b2)/\AAB U w w' l x.2 vs b2
 | .Ml e t::l,x,v::vs,bl=> ∃inner b2,w'.ownsRow 0 e (kd t).sz v (List.length x.1) inner/\B9 (λy c=>Rd U w' t y c) (kd t).sz x.1 inner/\bl=(DO v).toList++b2/\AAB U w w' l x.2 vs b2
 | _::_,_,[],_=>False
structure But (bl:List Nat) (w w':World):Prop where
 os:w'.os=w.os
 tape:w'.tape=w.tape
 output:w'.output=w.output
 size:w.heap.size<=w'.heap.size
 block : ∀k,k<w.heap.size->k ∉ bl->w'.heap[k]? =w.heap[k]?
def IOk (P:Program) (g:FuncId) (s:DU) (k:Nat):Prop:= ∀x r,s.f k x=some r-> ∀(U:Nat->Prop) (w:World) (vs:List Value) (bl:List Nat),(∀q,U q->q<w.heap.size)->AAA U w s.ps x vs bl->bl.Nodup->(∀q∈bl,U q) ->
 Calls P g vs.toArray w (λe w'=> ∃v oP,e= .returned v/\vQ (λq=>U q\/q∈oP) w' s.rs r.1 v/\AAB (λq=>U q\/q∈oP) w w' s.ps r.2 vs oP/\oP.Nodup/\(∀q∈oP,(q∈bl\/w.heap.size<=q)/\q<w'.heap.size)/\But bl w w')
def NOk (P:Program) (g:FuncId) (s:uq) (k:Nat):Prop:= ∀x r,s.f k x=some r-> ∀(U:Nat->Prop) (w:World) (vs:List Value),(∀q,U q->q<w.heap.size)->V8 U w s.ps x vs ->
 Calls P g vs.toArray w (λe w'=> ∃v inner,e= .returned v/\w'.ownsRow w.heap.size s.e (kd s.t).sz v r.length inner/\B9 (λy c=>Rd (λq=>U q\/DO v=some q) w' s.t y c) (kd s.t).sz r inner/\Below w.heap.size w w')
def NfR (U:Nat->Prop) (w:World):(fs:List NF)->NT fs->List Value->Prop
 | [],_,us=>us= []
 | .ty t::l,x,us=> ∃v1 v2,us=v1++v2/\Rd U w t x.1 v1/\NfR U w l x.2 v2
 | .nil::l,x,us=> ∃us',us= .slice none 0 0::us'/\NfR U w l x us'
def POk (P:Program) (g:FuncId) (s:ia) (k:Nat):Prop:= ∀x r,s.f k x=some r-> ∀(U:Nat->Prop) (w:World) (vs:List Value),(∀q,U q->q<w.heap.size)->V8 U w s.ps x vs ->
 Calls P g vs.toArray w (λe w'=> ∃v,e= .returned v/\Below w.heap.size w w'/\((r.1=true/\v= .pointer none)\/(r.1=false/\ ∃b us,v= .pointer (some ⟨b,0,none⟩)/\w.heap.size<=b/\w'.heap[b]? =some (.cells us.toArray s.e (0,0))/\NfR (λq=>U q\/q=b) w' s.fs r.2 us)))
def ALs (P:Program) (g:FuncId):FE->Nat->Prop
 | .pu s,k=>qp P g s k
 | .io s _,k=>IOk P g s k
 | .nw s,k=>NOk P g s k
 | .np s,k=>POk P g s k
def Gu (P:Program) (S:FuncId->Option FE) (k0:Nat):Prop:= ∀g s,S g=some s->Mn P g=true/\ ∀k,k<=k0->ALs P g s k
section
variable {P:Program} {Θ:Lz} {S:FuncId->Option FE} {k:Nat} {o:Oper} {U0:Nat->Prop} {ν:Nat->Value} {L:Nat->Prop} {tm:List AV} {hp:List AB} {w0:St} {w:World} {a:Act} {R:Type} {K:AV->HC->Tree R} {r:R}
theorem vW {w':World} : ∀ {rs:List Ty} {x:TT rs} {us:List Value},qm (Un U0 ν L) w' rs x us->Cj (λcs u=> ∃vs,u=Qm vs/\Cj (DA U0 ν L w') cs vs) (AEa rs x) us
 | [],x,us,h=>by rw[show us= [] from h];trivial
 | t::ts,x,u::us,⟨⟨cs,h1,h2⟩,h3⟩=>⟨⟨cs,h1,Ii t x.1 h2⟩,vW h3⟩
 | _::_,_,[],h=>h.elim
theorem jT : ∀ {rs:List Ty} {x:TT rs} {U:Nat->Prop} {us:List Value},qm U w rs x us->us.length=rs.length/\(AEa rs x).length=rs.length
 | [],x,U,us,h=>by rw[show us= [] from h];exact⟨rfl,rfl⟩
 | t::ts,x,U,u::us,⟨_,h3⟩=>⟨congrArg (· +1) (jT h3).1,congrArg (· +1) (jT h3).2⟩
 | _::_,_,_,[],h=>h.elim
theorem vX {w':World} {rs:List Ty} {x:TT rs} {v:Value} (h:vQ (Un U0 ν L) w' rs x v):HY U0 ν L w' (zg rs x) v:=by
 obtain⟨us,rfl,h⟩:=h;have hr:=vW h;have hl:=jT h;unfold zg;split
 · rename_i cs hc
   rw[hc] at hr
   match us,hr with
   | [u],hr=>exact hr.1
   | [],hr=>exact hr.elim
   | _::_::_,hr=>exact hr.2.elim
 · rename_i hne
   have:us.length≠1:=λq=>by
    have h2:(AEa rs x).length=1:=(by rw[hl.2,<-hl.1,q]);obtain⟨cs,hc⟩:=AXT.1 h2;exact hne cs hc
   refine⟨us, ?_,hr⟩;unfold mkR;split
   · exact absurd rfl this
   · rfl
def ALw (tm:List AV) (os:List Operand) (j:Nat):Prop:= ∃o∈os,AC.own j∈cellsOf (Aa tm o)
theorem Ta (I:Inv U0 ν tm hp w0 a w) {U:Nat->Prop} (hU : ∀k,k<w.heap.size->U k->Un U0 ν (lv hp) k) : ∀ {ps:List Ty} {os:List Operand} {x:TT ps},(∀o∈os,C6 U ν hp (cellsOf (Aa tm o)))->args hp tm ps os=some x->V8 U w ps x (os.map a.eval)
 | [],[],x,_,h=>rfl
 | t::ts,o::os,x,hm,h=>by
   simp only[args] at h;split at h
   · rename_i cs hc
     split at h
     · rename_i y hy
       split at h
       · rename_i ys hys
         injection h with h;subst h;obtain⟨vs,h1,h2⟩:=hc▸I.Aa o;have hmo:=hm o AUC;rw[hc] at hmo;obtain⟨v1,v2,rfl,q1,q2,_⟩:=NM I hU hmo hy h2;have:v2= []:=by
          cases v2 with
          | nil=>rfl
          | cons _ _=>exact q2.elim
         subst this;rw[AVW] at h1;exact⟨⟨v1,h1,q1⟩,Ta I hU (λo ho=>hm o (AUB _ ho)) hys⟩
       · cases h
     · cases h
   · cases h
 | [],_::_,x,_,h=>by simp[args] at h
 | _::_,[],x,_,h=>by simp[args] at h
theorem YY {l:List (Nat × AB)} (hl:Ph hp l) : ∀(ps:List Ty) (os:List Operand),args (Dx l hp) tm ps os=args hp tm ps os
 | [],[]=>rfl
 | t::ts,o::os=>by simp only[args,gw hl,YY hl ts os]
 | [],_::_=>rfl
 | _::_,[]=>rfl
theorem YZ : ∀ {os:List Operand} {o:Operand} {j:Nat} {e:TypeId} {t:Ty} {xs:List (T t)},o∈os->AC.own j∈cellsOf (Aa tm o)->hp[j]? =some (.row .mine e t xs)->LK (Jk hp tm os) j=true
 | o'::os,o,j,e,t,xs,ho,hj,hb=>by
   have app : ∀(l l':List (Nat × AB)),LK (l++l') j=(LK l j || LK l' j):=by
    intro l l';induction l with
    | nil=>simp[LK]
    | cons p l ih=>simp[LK,ih,Bool.or_assoc]
   simp only[Jk,app,AVf];rcases AUH.1 ho with rfl | ho
   · exact .inl (Pj hj hb)
   · exact .inr (YZ ho hj hb)
theorem jU {U U':Nat->Prop} : ∀ {t:Ty} {x:T t} {cs:List Value},YL t=true->Rd U w t x cs->Rd U' w t x cs
 | .int _,_,_,_,h=>h
 | .bool,_,_,_,h=>h
 | .str,_,_,_,h=>h
 | .row _ _,_,_,h,_=>by simp[YL] at h
 | .cons p q,x,cs,h,⟨c0,c1,h1,h2,h3⟩=>by
   simp only[YL,AUO] at h;exact⟨c0,c1,h1,jU h.1 h2,jU h.2 h3⟩
theorem oQ {U U':Nat->Prop} : ∀ {rs:List Ty} {x:TT rs} {us:List Value},rs.all YL=true->qm U w rs x us->qm U' w rs x us
 | [],_,_,_,h=>h
 | t::ts,x,u::us,hn,⟨⟨cs,h1,h2⟩,h3⟩=>by
   simp only[AWa,AUO] at hn;exact⟨⟨cs,h1,jU hn.1 h2⟩,oQ hn.2 h3⟩
 | _::_,_,[],_,h=>h.elim
theorem VY {c:Call} {g:FuncId} (hg:c.callee= .value (.func g)) (ho:o.op= .call c) (hb:Mn P g=true):(execOp a.eval o).run P w= .ok (.enter g (c.args.toList.map a.eval).toArray) w:=by
 have hmap:(c.args.toList.map a.eval).toArray=c.args.map a.eval:=by apply AXd;simp
 rw[hmap];unfold Mn at hb;split at hb
 · rename_i fn hfn
   simp only[AUO,AVb] at hb;have he:=ABn hfn hb.1 hb.2 (c.args.map a.eval) w;unfold execOp;simp only[ho];cases c with
   | mk callee as ts =>
     simp only at hg;subst hg;simp[resolve,Deferred.ofValue,invoke,Act.eval,he]
 · cases hb
theorem AHz (hS:Gu P S k) (I:Inv U0 ν tm hp w0 a w) (hU : ∀q,U0 q->q<w0.heap.size) {c:Call} {g:FuncId} (hg:c.callee= .value (.func g)) (ho:o.op= .call c) {s:AQ} (hs:S g=some (.pu s)) {x:TT s.ps} (hx:args hp tm s.ps c.args.toList=some x) (h:(Tree.nD (s.f k x) λr=>K (zg s.rs r) ⟨none,if s.rs.all YL=true then[] else Jk hp tm c.args.toList⟩).run=some r):DE P Θ S k o U0 ν tm hp w0 a w K r:=by
 obtain⟨y,hf,h⟩:=Tree.VT h;refine⟨_,_,h, ?_⟩;intro hh next Q hn
 obtain⟨hb,hk⟩:=hS g _ hs;have hrun:(execOp a.eval o).run P w= .ok (.enter g (c.args.toList.map a.eval).toArray) w:=VY hg ho hb;unfold Oper.wp;rw[hrun];have hUn : ∀(CY:List AB) (ν':Nat->Value),Inv U0 ν' tm CY w0 a w-> ∀q,Un U0 ν' (lv CY) q->q<w.heap.size:=λCY ν' I' q hq=>by
  rcases hq with hq | ⟨j,hj,hb⟩
  · exact AVC (hU q hq) I'.fr.size
  · exact(I'.lt hj hb).1
 have fin : ∀(CY:List AB) (ν':Nat->Value) (U:Nat->Prop),Inv U0 ν' tm CY w0 a w->(∀q,U q->q<w.heap.size)->V8 U w s.ps x (c.args.toList.map a.eval)->(∀w' v,vQ U w' s.rs y v->vQ (Un U0 ν' (lv CY)) w' s.rs y v) ->
  (∀ν' v w',Inv U0 ν' (OX tm o.dst (zg s.rs y)) CY w0 (a.put o.dst v) w'->next (a.put o.dst v) w')->o.upon P a next Q (.ok (.enter g (c.args.toList.map a.eval).toArray) w):=by
  intro CY ν' U I' hUw AEx hres hn;rw[Oper.upon_enter];refine(hk k (AUN _) x y hf U w _ hUw AEx).mono λe w' hh=> ?_
  obtain⟨v,rfl,hr,TL⟩:=hh;show next (a.put o.dst v) w'
  exact hn ν' v w' (I'.go o.dst _ v TL.size TL.block (λj hj q hq=>(I'.lt hj hq).1) (vX (hres w' v hr)) (I'.fr.step TL))
 by_cases hnr:s.rs.all YL=true
 · rw[if_pos hnr] at hn
   refine fin hp ν (λq=>Un U0 ν (lv hp) q/\ ¬ ∃j,ALw tm c.args.toList j/\lv hp j/\DO (ν j)=some q) I (λq hq=>hUn hp ν I q hq.1) (Ta I (λq _ hq=>hq.1) (λo' ho' j e t xs hj hb q hq hu=>hu.2 ⟨j,⟨o',ho',hj⟩,⟨_,hb,rfl⟩,hq⟩) hx) (λw' v ⟨us,h1,h2⟩=>⟨us,h1,oQ hnr h2⟩) hn
 · rw[if_neg hnr] at hn
   have hfz:=YX (hp:=hp) (tm:=tm) c.args.toList;obtain⟨ν',I'⟩:=I.KD hU hfz;exact fin (Dx (Jk hp tm c.args.toList) hp) ν' (Un U0 ν' (lv (Dx (Jk hp tm c.args.toList) hp))) I' (λq hq=>hUn _ ν' I' q hq) (Ta I' (λq _ hq=>hq) (λo' ho'=>C6.frz hfz (λj e t xs hj hb=>YZ ho' hj hb) _ _) ((YY hfz _ _).trans hx)) (λ_ _ z=>z) hn
theorem AH0 {c:Call} {b:Builtin} {x:Operand} {t:TypeId} (hc:c.callee= .builtin b) (hxs:c.args.toList= [x]) (hts:c.argTypes.toList= [t]):c= {callee:= .builtin b,args:= #[x],argTypes:= #[t]} :=by
 cases c with
 | mk callee as ts =>
   simp only at hc hxs hts;subst hc
   congr 1
   · exact AWt.1 hxs
   · exact AWt.1 hts
theorem jV {c:Call} {b:Builtin} {x y:Operand} (hc:c.callee= .builtin b) (hxs:c.args.toList= [x,y]):c= {callee:= .builtin b,args:= #[x,y],argTypes:=c.argTypes} :=by
 cases c with
 | mk callee as ts =>
   simp only at hc hxs;subst hc
   congr 1
   exact AWt.1 hxs
theorem gx {x:Operand} {t:TypeId} {d:TypeDesc} {A:Option Addr} {n c:Nat} {e:TypeId} (ho:o.op= .call {callee:= .builtin .len,args:= #[x],argTypes:= #[t]}) (hd:P.underlying t=some (.slice e)) (hx:a.eval x= .slice A n c):(execOp a.eval o).run P w= .ok (.value (.int .i64 n)) w:=by
 simp only[execOp,ho,resolve];simp[invoke,builtin,hx,Builtin.len_,run_underlying hd,goInt]
theorem AKc (hΘ:Θ.ok P=true) (I:Inv U0 ν tm hp w0 a w) {c:Call} (hc:c.callee= .builtin .len) (ho:o.op= .call c) (h:(stepT Θ S k tm hp o.dst (.call c) K).run=some r):DE P Θ S k o U0 ν tm hp w0 a w K r:=by
 simp only[stepT,hc] at h;split at h
 · rename_i x t hxs hts
   have hop:o.op= .call {callee:= .builtin .len,args:= #[x],argTypes:= #[t]} :=(by rw[ho,AH0 hc hxs hts]);have ks : ∀ {i:TI} {e':TypeId},ti Θ t=some i->i.kind= .slice e'->P.underlying t=some (.slice e'):=λhi hk=>by
    obtain⟨_,d,_,hd,_,_,hB,_⟩:=Bs hΘ hi;rw[hk] at hB;rw[LX hB] at hd;exact hd
   split at h
   · rename_i e t' xs i hx hi
     split at h
     · rename_i e' hk
       have hv:DA U0 ν (lv hp) w (.ro (.row e t') xs) (a.eval x):=val_one (hx▸I.Aa x);obtain⟨A,cc,nC,_⟩:=hv.2;exact⟨_,_,h,Ao I (gx (d:= .bool) hop (ks hi hk) (AVY nC).1) (Jn .i64 _)⟩
     · cases h
   · rename_i i hx hi
     split at h
     · rename_i e' hk
       have hv:DA U0 ν (lv hp) w .CA (a.eval x):=val_one (hx▸I.Aa x);have hv:a.eval x= .slice none 0 0:=hv;exact⟨_,_,h,Ao I (gx (d:= .bool) hop (ks hi hk) hv) (Jn .i64 0)⟩
     · cases h
   · rename_i j i hx hi
     split at h
     · rename_i e' hk
       have hv:DA U0 ν (lv hp) w (.own j) (a.eval x):=val_one (hx▸I.Aa x);split at h
       · rename_i e t' xs hb
         obtain⟨_,A,n,h2⟩:=(I.mem j _ hb rfl).N0 (U:=λ_=>False) (λ_ _ z=>z.elim);exact⟨_,_,h,Ao I (gx (d:= .bool) hop (ks hi hk) (show a.eval x= .slice A (List.length xs) n by rw[hv.2,h2];rfl)) (Jn .i64 _)⟩
       · rename_i e t' xs hb
         obtain⟨v,h1,A,n,h2,_⟩:=I.mem j _ hb rfl;exact⟨_,_,h,Ao I (gx (d:= .bool) hop (ks hi hk) (show a.eval x= .slice A (List.length xs) n by rw[hv.2,h1];exact(AVY h2).1)) (Jn .i64 _)⟩
       · cases h
     · cases h
   · rename_i s i hx hi
     split at h
     · rename_i hk
       have hv:=jA (hx▸I.Aa x);obtain⟨_,d,_,hd,_,_,hB,_⟩:=Bs hΘ hi;rw[hk] at hB;rw[YP hB] at hd;refine⟨_,_,h,Ao I ?_ (Jn .i64 _)⟩;simp only[execOp,hop,resolve];simp[invoke,builtin,hv,Builtin.len_,run_underlying hd,goInt]
     · cases h
   · cases h
 · cases h
theorem AKd (I:Inv U0 ν tm hp w0 a w) {c:Call} (hc:c.callee= .builtin .max) (ho:o.op= .call c) (h:(stepT Θ S k tm hp o.dst (.call c) K).run=some r):DE P Θ S k o U0 ν tm hp w0 a w K r:=by
 simp only[stepT,hc] at h;split at h
 · rename_i x y hxs
   rw[jV hc hxs] at ho;split at h
   · rename_i kk m kk' n hx hy
     have h1:=G0 (hx▸I.Aa x);have h2:=G0 (hy▸I.Aa y);refine⟨_,_,h,Ao I ?_ (Jn kk _)⟩;simp only[execOp,ho,resolve];simp[invoke,builtin,Builtin.max_,h1,h2,iV,mx]
   · cases h
 · cases h
theorem AKe (I:Inv U0 ν tm hp w0 a w) {c:Call} (hc:c.callee= .builtin .min) (ho:o.op= .call c) (h:(stepT Θ S k tm hp o.dst (.call c) K).run=some r):DE P Θ S k o U0 ν tm hp w0 a w K r:=by
 simp only[stepT,hc] at h;split at h
 · rename_i x y hxs
   rw[jV hc hxs] at ho;split at h
   · rename_i kk m kk' n hx hy
     have h1:=G0 (hx▸I.Aa x);have h2:=G0 (hy▸I.Aa y);refine⟨_,_,h,Ao I ?_ (Jn kk _)⟩;simp only[execOp,ho,resolve];simp[invoke,builtin,Builtin.min_,h1,h2,iW,mn]
   · cases h
 · cases h
end
end
section
theorem splice (off:Nat) : ∀(xs:List Value) (j:Nat) (cs:List Value),off+j+xs.length<=cs.length ->
 ((xs.zipIdx j).foldl (λ(q:Array Value) (p:Value × Nat)=>q.setIfInBounds (off+p.2) p.1) cs.toArray)=(cs.take (off+j)++xs++cs.drop (off+j+xs.length)).toArray
 | [],j,cs,_=>by simp
 | x::xs,j,cs,h=>by
   simp only[List.zipIdx_cons,List.foldl_cons,AVw];simp only[AUu] at h;rw[splice off xs (j+1) (cs.set (off+j) x) (by simp;omega)]
   congr 1
   apply AVK;intro m;simp only[AV0,AUR,AUJ,AUz,AUu,AUf,AUh,AWI];have hl:off+j<cs.length:=(by omega);rcases AXM m (off+j) with hm | hm | hm
   · simp[show m<min (off+(j+1)) cs.length+xs.length by omega,show m<min (off+(j+1)) cs.length by omega,show m<off+(j+1) by omega,show m<min (off+j) cs.length+(xs.length+1) by omega,show m<min (off+j) cs.length by omega,show m<off+j by omega,show off+j≠m by omega]
   · subst hm
     simp[show off+j<min (off+(j+1)) cs.length+xs.length by omega,show off+j<min (off+(j+1)) cs.length by omega,show off+j<off+(j+1) by omega,show off+j<min (off+j) cs.length+(xs.length+1) by omega,show¬off+j<min (off+j) cs.length by omega,hl,show off+j-min (off+j) cs.length=0 by omega]
   · by_cases hm2:m<off+(j+1)+xs.length
     · simp[show m<min (off+(j+1)) cs.length+xs.length by omega,show¬m<min (off+(j+1)) cs.length by omega,show m<min (off+j) cs.length+(xs.length+1) by omega,show¬m<min (off+j) cs.length by omega,show m-min (off+j) cs.length=(m-min (off+(j+1)) cs.length)+1 by omega]
     · simp[show¬m<min (off+(j+1)) cs.length+xs.length by omega,show¬m<min (off+j) cs.length+(xs.length+1) by omega,show off+(j+1)+xs.length+(m-(min (off+(j+1)) cs.length+xs.length))=off+j+(xs.length+1)+(m-(min (off+j) cs.length+(xs.length+1))) by omega]
       intro hc;exact absurd hc (by omega)
section
variable {P:Program} {Θ:Lz} {S:FuncId->Option FE} {k:Nat} {o:Oper} {U0:Nat->Prop} {ν:Nat->Value} {tm:List AV} {hp:List AB} {w0:St} {w:World} {a:Act} {R:Type} {K:AV->HC->Tree R} {r:R}
theorem Ya (I:Inv U0 ν tm hp w0 a w) {place:Nat->Option (Nat × Nat)} : ∀ {ps:List (Nat × Operand)} {cs out:List AC} {vs:List Value},Of place cs (ps.map λp=>(p.1,Aa tm p.2))=some out->Cj (DA U0 ν (lv hp) w) cs vs ->
 ∃us,Instr.fill place vs.toArray (ps.map λp=>(p.1,a.eval p.2))=some us.toArray/\Cj (DA U0 ν (lv hp) w) out us
 | [],cs,out,vs,h,hr=>by
   simp only[AW9,Of] at h;injection h with h;subst h;exact⟨vs,rfl,hr⟩
 | (i,x)::ps,cs,out,vs,h,hr=>by
   simp only[AUr] at h;cases hx:Aa tm x with
   | val xs =>
     rw[hx] at h;simp only[Of] at h;split at h
     · rename_i off sz hpl
       split at h
       · rename_i hc
         obtain⟨us,e1,e2,e3,e4⟩:=(hx▸I.Aa x:HY U0 ν (lv hp) w (.val xs) (a.eval x)).cells I;have hl:=hr.len;have hu:=e3.len;have vY:Cj (DA U0 ν (lv hp) w) (cs.take off++xs++cs.drop (off+sz)) (vs.take off++us++vs.drop (off+sz)):=((hr.take off).app e3).app (hr.drop (off+sz));obtain⟨zs,q1,q2⟩:=Ya I h vY;refine⟨zs, ?_,q2⟩;simp only[AUr,Instr.fill,hpl];rw[e2];rw[if_neg (by simp;omega)];have:=splice off us 0 vs (by omega);simp only[AXA] at this;rw[show off+us.length=off+sz by omega] at this;rw[<-q1,<-this]
         congr 1
         rw[<-Array.foldl_toList];simp
       · cases h
     · cases h
   | un=>rw[hx] at h;simp[Of] at h
   | tup _=>rw[hx] at h;simp[Of] at h
   | GZ=>rw[hx] at h;simp[Of] at h
theorem AE3 (hΘ:Θ.ok P=true) (I:Inv U0 ν tm hp w0 a w) {t:TypeId} {ps:Array (Nat × Operand)} (ho:o.op= .build t ps) (h:(stepT Θ S k tm hp o.dst (.build t ps) K).run=some r):DE P Θ S k o U0 ν tm hp w0 a w K r:=by
 simp only[stepT] at h;split at h
 · rename_i i hi
   split at h
   · rename_i fs hk
     split at h;rotate_left
     · cases h
     rename_i hpl;split at h
     · rename_i out hf
       split at h
       · cases h
       · rename_i hn1
         obtain⟨f,d,Yb,hd,_,_,hB,_,_,z,hz,uO⟩:=Bs hΘ hi;rw[hk] at hB;obtain⟨fields,rfl,hg⟩:=Oi hB;have hr:Cj (DA U0 ν (lv hp) w) i.zero z:=NL uO;obtain⟨us,q1,q2⟩:=Ya I hf hr;have h4 : ∀u∈z,u.oneCell'=true:=λu hu=>by
          obtain⟨c,_,hr⟩:=hr.mem u hu;exact hr.one I.qP
         refine⟨_,_,h,Ao I (v:= .agg us.toArray) ?_ ⟨us,(jC (by rw[<-q2.len];exact hn1)).symm,q2⟩⟩;have hb:P.built t (ps.map λp=>(p.1,a.eval p.2)).toList=some us.toArray:=by
          unfold Program.built;simp only[Yb,hd,hz];have hmap:fields.toList.mapM (λf=>(P.info? f.type).map λi=>(f.offset,i.size))=some fs:=by
           rw[<-hg] at hpl ⊢;generalize fields.toList=l at *;clear hg hf hd;induction l with
           | nil=>rfl
           | cons f l ih =>
             simp only[AUr,AWa,AUO,bne_iff_ne] at hpl;cases hq:P.info? f.type with
             | none=>simp[hq] at hpl
             | some j=>simp[hq,ih hpl.2,AXH]
          simp only[hmap,G1 h4];rw[<-q1]
          congr 1
          · funext q;simp
          · simp
         simp only[execOp,ho];have:=run_build (P:=P) w t (ps.map λp=>(p.1,a.eval p.2)) us.toArray hb;simp[this]
     · cases h
   · rename_i n e hk
     split at h
     · rename_i ze hze
       split at h
       · rename_i out hf
         split at h
         · cases h
         · rename_i hn1
           obtain⟨f,d,Yb,hd,_,_,hB,_,_,z,hz,uO⟩:=Bs hΘ hi;rw[hk] at hB;rw[jB hB] at hd;obtain⟨fe,_,hfe,_,hse,_⟩:=Bs hΘ hze;have hr:Cj (DA U0 ν (lv hp) w) i.zero z:=NL uO;obtain⟨us,q1,q2⟩:=Ya I hf hr;have h4 : ∀u∈z,u.oneCell'=true:=λu hu=>by
            obtain⟨c,_,hr⟩:=hr.mem u hu;exact hr.one I.qP
           refine⟨_,_,h,Ao I (v:= .agg us.toArray) ?_ ⟨us,(jC (by rw[<-q2.len];exact hn1)).symm,q2⟩⟩;have hb:P.built t (ps.map λp=>(p.1,a.eval p.2)).toList=some us.toArray:=by
            unfold Program.built;simp only[Yb,hd,hz,hfe,hse,G1 h4];rw[<-q1]
            congr 1
            simp
           simp only[execOp,ho];have:=run_build (P:=P) w t (ps.map λp=>(p.1,a.eval p.2)) us.toArray hb;simp[this]
       · cases h
     · cases h
   · cases h
 · cases h
theorem Tb {l:List (Nat × AB)} (hl:Ph hp l) {t:Ty} : ∀(n:Nat) (cs:List AC),rows (Dx l hp) t n cs=rows hp t n cs
 | 0,[]=>rfl
 | 0,_::_=>rfl
 | n+1,cs=>by simp only[rows,gw hl,Tb hl n]
theorem Tc (I:Inv U0 ν tm hp w0 a w) {t:Ty} : ∀ {n:Nat} {cs:List AC} {xs:List (T t)} {vs:List Value},C6 (Un U0 ν (lv hp)) ν hp cs->rows hp t n cs=some xs->Cj (DA U0 ν (lv hp) w) cs vs->xs.length=n/\vs.length=n*t.size/\ ∀(j:Nat) (p:T t),xs[j]? =some p->Rd (Un U0 ν (lv hp)) w t p ((vs.drop (j*t.size)).take t.size)
 | 0,[],xs,vs,_,h,hr=>by
   simp only[rows] at h;injection h with h;subst h;have:vs= []:=by
    cases vs with
    | nil=>rfl
    | cons _ _=>exact hr.elim
   subst this;exact⟨rfl,by simp,λj p hj=>by simp at hj⟩
 | 0,_::_,xs,vs,_,h,hr=>by simp[rows] at h
 | n+1,cs,xs,vs,hm,h,hr=>by
   simp only[rows] at h;split at h
   · rename_i x cs' hx
     split at h
     · rename_i ys hy
       injection h with h;subst h;obtain⟨v1,v2,rfl,q1,q2,q3⟩:=NM I (λ_ _ h=>h) hm hx hr;obtain⟨z1,z2,z3⟩:=Tc I q3 hy q2;have hl:v1.length=t.size:=(by rw[(kd t).Ei q1.K,Gr]);refine⟨by simp[z1],by rw[AUR,hl,z2,AWT];omega,λj p hj=> ?_⟩;cases j with
       | zero =>
         simp only[AVa] at hj;injection hj with hj;subst hj;rw[Nat.zero_mul,AWO,<-hl,List.take_left];exact q1
       | succ j =>
         simp only[AVT] at hj;have:=z3 j p hj;rw[AWT,Nat.one_mul,AWo,<-hl,<-AWk,AXE,hl];exact this
     · cases h
   · cases h
theorem oS {zs:List AC} {z:List Value} (h:Cj (DA U0 ν (lv hp) w) zs z) : ∀n:Nat,Cj (DA U0 ν (lv hp) w) ((List.range n).flatMap λ_=>zs) ((List.range n).flatMap λ_=>z)
 | 0=>trivial
 | n+1=>by
   rw[AW2,AVv,AVv];exact(oS h n).app (by simpa using h)
theorem vZ {z:List Value} {sz:Nat} (hl:z.length=sz) (hs:0<sz) : ∀n:Nat,(Array.range (n*sz)).map (λi=>z.toArray[i%z.toArray.size]!)=((List.range n).flatMap λ_=>z).toArray:=by
 intro n;apply AXd;simp only[Array.toList_map,Array.toList_range];induction n with
 | zero=>simp
 | succ n ih =>
   rw[AW2,AVv,AWT,Nat.one_mul,List.range_add,AVZ,ih]
   congr 1
   apply List.ext_getElem
   · simp[hl]
   · intro i h1 h2
     simp at h1 h2 ⊢;have:(n*sz+i)%sz=i:=(by rw[AV4,Nat.mul_add_mod];exact AWr h1);rw[hl,this];simp[show i<z.length by omega]
theorem size_pos : ∀t:Ty,0<t.size
 | .cons a b=>AVC (size_pos a) (Nat.le_add_right _ _)
 | .int _=>Nat.one_pos
 | .bool=>Nat.one_pos
 | .str=>Nat.one_pos
 | .row _ _=>Nat.one_pos
theorem AKf {U:Nat->Prop} {e:TypeId} {ty:Ty} {xs:List (T ty)} {us:List Value} (hU : ∀q,U q->q<w.heap.size) (h : ∀(j:Nat) (p:T ty),xs[j]? =some p->Rd U w ty p ((us.drop (j*ty.size)).take ty.size)) (hl:List.length xs<=9223372036854775807) :
 Rd U (w.alloc (.cells us.toArray e (0,0))) (.row e ty) xs [.slice (some ⟨w.heap.size,0,none⟩) (List.length xs) (List.length xs)]:=by
 have m:Move U w (w.alloc (.cells us.toArray e (0,0))) U:=⟨by simp,λq hq _=>Below.heap_alloc _ _ _ hq,λ_ _ z=>z⟩;refine⟨_,_,rfl,AUN _,hl,λ_=>⟨_,rfl,λj p hj=>⟨_,(h j p hj).move m,λi u hu W hs2 uN=> ?_⟩⟩⟩;have ADH:W.heap[w.heap.size]? =some (.cells us.toArray e (0,0)):=by
  rw[uN w.heap.size (by simp) (λq=>absurd (hU _ q) (by omega))];exact heap_alloc_new w _
 show W.cell? _=_;rw[KI,MI ADH];rw[AUf] at hu;split at hu
 · rw[AUh] at hu
   simpa using hu
 · cases hu
theorem nG (hΘ:Θ.ok P=true) (I:Inv U0 ν tm hp w0 a w) (hU : ∀q,U0 q->q<w0.heap.size) {t:TypeId} {n:Nat} {ps:Array (Nat × Operand)} (ho:o.op= .buildSlice t n ps) (h:(stepT Θ S k tm hp o.dst (.buildSlice t n ps) K).run=some r):DE P Θ S k o U0 ν tm hp w0 a w K r:=by
 simp only[stepT] at h;split at h
 · rename_i i hi
   split at h
   · rename_i e hk
     split at h
     · rename_i zi hzi
       split at h
       · rename_i ty hty
         split at h
         · rename_i hsz
           split at h
           · rename_i out q hf hq
             split at h
             · rename_i xs hxs
               obtain⟨_,d,_,hd,_,_,hB,_⟩:=Bs hΘ hi;rw[hk] at hB;rw[LX hB] at hd;obtain⟨f,_,Yb,_,hs,_,_,_,hzl,z,hz,uO⟩:=Bs hΘ hzi;have hfz:=Mm (hp:=hp) out;have run : ∀ {CY:List AB} {ν':Nat->Value},Inv U0 ν' tm CY w0 a w-> ∃us,Cj (DA U0 ν' (lv CY) w) out us/\(execOp a.eval o).run P w= .ok (.value (.slice (some ⟨w.heap.size,0,none⟩) n n)) (w.alloc (.cells us.toArray e (0,0))):=by
                intro CY ν' I';have hzr:Cj (DA U0 ν' (lv CY) w) zi.zero z:=NL uO;have h4 : ∀u∈z,u.oneCell'=true:=λu hu=>by
                 obtain⟨c,_,hr⟩:=hzr.mem u hu;exact hr.one I'.qP
                obtain⟨us,q1,q2⟩:=Ya I' hf (oS hzr n);have ALx:z.length=zi.size:=(by rw[<-hzr.len,hzl]);have hpos:0<ty.size:=size_pos ty;refine⟨us,q2, ?_⟩;have hs1:(sizeOf e).run P w= .ok zi.size w:=(by simp[sizeOf,typeInfo,Yb,hs]);have hz1:(zeroValue e).run P w= .ok (Qm z) w:=(by simp[zeroValue,typeInfo,Yb,hz]);have hle : ¬n*zi.size>2^24:=(by have:=hsz.2.1;omega);have hfl:Instr.fill (λi=>some (i*zi.size,zi.size)) ((List.range n).flatMap λ_=>z).toArray (ps.map λp=>(p.1,a.eval p.2)).toList=some us.toArray:=by
                 rw[<-q1];congr 1;simp
                simp only[execOp,ho];by_cases h0:n*zi.size=0
                · have hn:n=0:=by
                   have:=hsz.1;rcases Nat.mul_eq_zero.1 h0 with h0 | h0
                   · exact h0
                   · omega
                  subst hn;simp at hfl;have Yc:Array.range 0= #[]:=rfl;simp[Instr.buildSlice,run_underlying hd,hs1,newRow,Yc];simp[hfl]
                · have uO:=vZ (n:=n) ALx (by have:=hsz.1;omega)
                  simp[Instr.buildSlice,run_underlying hd,hs1,hz1,hle,h0,G1 h4,newRow];simp at uO hfl;simp[uO,hfl]
               split at h
               · rename_i hn0
                 obtain⟨us,q2,hrun⟩:=run I;refine⟨_,_,h, ?_⟩;intro hh next Q hn
                 unfold Oper.wp;rw[hrun];rw[hq] at hh hn;obtain⟨hg,hb,_⟩:=Qs hh;show next (a.put o.dst _) _
                 rw[hq];refine hn (upd ν q (.slice (some ⟨w.heap.size,0,none⟩) n n)) _ _ (I.new hU hg hb (by simp) (λk hk=>Below.heap_alloc _ _ _ hk) (λk hk=> ?_) (I.fr.alloc _) (λm hL=> ?_) _)
                 · injection hk with hk
                   have hk:w.heap.size=k:=hk;omega
                 · obtain⟨r1,r2,_⟩:xs.length=n/\us.length=0/\True:=by
                    subst hn0;have zG:out= []/\xs= []:=by
                     cases out with
                     | nil=>simp only[rows] at hxs;injection hxs with hxs;exact⟨rfl,hxs.symm⟩
                     | cons _ _=>simp[rows] at hxs
                    refine⟨by rw[zG.2];rfl,by rw[<-q2.len,zG.1];rfl,trivial⟩
                   subst hn0;have hxn:xs= []:=AU0 r1;have hun:us= []:=AU0 r2;subst hxn hun;refine⟨⟨⟨[], ?_,B9.none _ _⟩,λk hk=>by rw[Br] at hk;injection hk with hk;exact hk▸I.fr.size⟩,FJ (c:= .own q) ⟨((Eu hg hb).1 q).2 (.inr rfl),by rw[Br];rfl⟩⟩;rw[Br];exact⟨by simp, .inr ⟨w.heap.size,0,#[],rfl,I.fr.size,heap_alloc_new w _,AUN _,by unfold maxLen;omega,by simp,by simp⟩⟩
               · obtain⟨ν',I'⟩:=I.KD hU hfz
                 obtain⟨us,q2,hrun⟩:=run I';obtain⟨r1,r2,r3⟩:=Tc I' (C6.frz hfz (λj e t xs hj hb=>Pj hj hb) _ _) ((Tb hfz n out).trans hxs) q2;refine⟨_,_,h, ?_⟩;intro hh next Q hn
                 unfold Oper.wp;rw[hrun];show next (a.put o.dst _) _
                 have hlt : ∀q,Un U0 ν' (lv (Dx (Mv hp out) hp)) q->q<w.heap.size:=λq hq=>by
                  rcases hq with hq | ⟨j,hj,hb⟩
                  · exact AVC (hU q hq) I.fr.size
                  · exact(I'.lt hj hb).1
                 have vP:List.length xs<=9223372036854775807:=by
                  have h2:=hsz.2.1;have h1:=hsz.1;have:=size_pos ty;have:n<=n*zi.size:=AVk _ (by omega);omega
                 refine hn ν' _ _ (I'.go o.dst _ _ (by simp) (λq hq=>Below.heap_alloc _ _ _ hq) (λj hj q hq=>(I'.lt hj hq).1) (FJ (c:= .ro (.row e ty) xs) ⟨rfl, ?_⟩) (I.fr.alloc _));have:=AKf (e:=e) hlt r3 vP;rw[r1] at this;exact this
             · cases h
           · cases h
         · cases h
       · cases h
     · cases h
   · cases h
 · cases h
theorem AKg (hΘ:Θ.ok P=true) (I:Inv U0 ν tm hp w0 a w) (hU : ∀q,U0 q->q<w0.heap.size) {e:TypeId} {x:Operand} (ho:o.op= .box e x) (h:(stepT Θ S k tm hp o.dst (.box e x) K).run=some r):DE P Θ S k o U0 ν tm hp w0 a w K r:=by
 simp only[stepT] at h;split at h
 · rename_i cs t hx hd
   have flat:(K (.val [.ptr t 0]) ⟨some (.cells .mine e cs),[]⟩).run=some r->DE P Θ S k o U0 ν tm hp w0 a w K r:=λh=>by
    obtain⟨vs,h1,h2,h3,h4⟩:=(hx▸I.Aa x:HY U0 ν (lv hp) w (.val cs) (a.eval x)).cells I;refine⟨_,_,h,vE I hU hd h3 ?_⟩;simp only[execOp,ho];simp[Instr.box,newVar,newRow,h2]
   split at h
   · rename_i i hi
     split at h
     · rename_i n e' hk
       split at h
       · rename_i z hz
         split at h
         · rename_i ty hty
           split at h
           · rename_i hsz
             split at h
             · rename_i xs hxs
               have hfz:=Mm (hp:=hp) cs;obtain⟨ν',I'⟩:=I.KD hU hfz;obtain⟨us,h1,h2,h3,h4⟩:=(hx▸I'.Aa x:HY U0 ν' (lv (Dx (Mv hp cs) hp)) w (.val cs) (a.eval x)).cells I';obtain⟨r1,r2,r3⟩:=Tc I' (C6.frz hfz (λj e t xs hj hb=>Pj hj hb) _ _) ((Tb hfz n cs).trans hxs) h3;refine⟨_,_,h, ?_⟩;intro hh next Q hn
               have hrun:(execOp a.eval o).run P w= .ok (.value (.pointer (some ⟨w.heap.size,0,none⟩))) (w.alloc (.cells us.toArray e (0,0))):=by
                simp only[execOp,ho];simp[Instr.box,newVar,newRow,h2]
               unfold Oper.wp;rw[hrun];rw[hd] at hh hn;obtain⟨hg,hb,_⟩:=Qs hh;have hg':(Dx (Mv hp cs) hp)[t]? =some .gone:=by
                rcases Gw hfz t with q | ⟨_,_,_,q,_⟩
                · rw[q,hg]
                · rw[hg] at q;cases q
               show next (a.put o.dst _) _
               rw[hd];refine hn (upd ν' t (.slice (some ⟨w.heap.size,0,none⟩) n n)) _ _ (I'.new hU hg' hb (by simp) (λk hk=>Below.heap_alloc _ _ _ hk) (λk hk=> ?_) (I'.fr.alloc _) (λm hL=> ?_) _)
               · injection hk with hk
                 have hk:w.heap.size=k:=hk;omega
               · have hlen:us.length=List.length xs*(kd ty).sz:=by rw[r2,r1,Gr]
                 have hn0:n<=1000:=hsz.2.2.1;refine⟨⟨⟨us, ?_,hlen,λj p hj=> ?_⟩,λk hk=>by rw[Br] at hk;injection hk with hk;exact hk▸I'.fr.size⟩,FJ (c:= .Jm t) ⟨((Eu hg' hb).1 t).2 (.inr rfl),_,_,_,by rw[Br];rfl,rfl⟩⟩
                 · rw[Br,r1]
                   exact⟨by rw[hlen,r1], .inr ⟨w.heap.size,n,us.toArray,rfl,I'.fr.size,heap_alloc_new w _,AUN _,by unfold maxLen;omega,by simp[hlen,r1],AUS (by simp[hlen,r1])⟩⟩
                 · rw[Gr]
                   exact(r3 j p hj).move m
             · cases h
           · cases h
         · cases h
       · cases h
     · exact flat h
   · exact flat h
 · cases h
theorem Yd {U L:Nat->Prop} : ∀ {t:Ty} {cs rest:List AC} {vs:List Value},MJ t cs=some rest->Cj (DA U0 ν L w) cs vs-> ∃v1 v2,vs=v1++v2/\Rd U w t (dflt t) v1/\Cj (DA U0 ν L w) rest v2
 | .cons p q,cs,rest,vs,h,hr=>by
   simp only[MJ] at h;split at h
   · rename_i cs1 h1
     obtain⟨v1,v2,rfl,q1,q2⟩:=Yd h1 hr;obtain⟨v3,v4,rfl,q3,q4⟩:=Yd h q2;exact⟨v1++v3,v4,(AVQ ..).symm,⟨v1,v3,rfl,q1,q3⟩,q4⟩
   · cases h
 | .row e t,c::cs,rest,v::vs,h,hr=>by
   cases c<;>simp only[MJ] at h<;>try (simp at h;done)
   injection h with h;subst h;have hv:v= .slice none 0 0:=hr.1;subst hv;exact⟨[_],vs,rfl,⟨none,0,rfl,AUN _,AWf _,λhn=>absurd hn (AWy 0)⟩,hr.2⟩
 | .int k,c::cs,rest,v::vs,h,hr=>by
   cases c with
   | ro t x =>
     cases t<;>simp only[MJ] at h<;>try (simp at h;done)
     split at h
     · rename_i q
       injection h with h;subst h;obtain⟨rfl,hx⟩:=q;have hv:=(AVY hr.1.2).1;refine⟨[v],vs,rfl, ?_,hr.2⟩;rw[hv,hx];rfl
     · cases h
   | _=>simp[MJ] at h
 | .bool,c::cs,rest,v::vs,h,hr=>by
   cases c with
   | ro t x =>
     cases t<;>simp only[MJ] at h<;>try (simp at h;done)
     split at h
     · rename_i hx
       injection h with h;subst h;have hv:=(AVY hr.1.2).1;refine⟨[v],vs,rfl, ?_,hr.2⟩;rw[hv,hx];rfl
     · cases h
   | _=>simp[MJ] at h
 | .str,c::cs,rest,v::vs,h,hr=>by
   cases c with
   | ro t x =>
     cases t<;>simp only[MJ] at h<;>try (simp at h;done)
     split at h
     · rename_i hx
       injection h with h;subst h;have hv:=(AVY hr.1.2).1;refine⟨[v],vs,rfl, ?_,hr.2⟩;have:(x:ByteArray)=⟨#[]⟩:=by
        cases hb:(x:ByteArray) with
        | mk b =>
          rw[hb] at hx
          congr 1
          exact Array.eq_empty_of_size_eq_zero (by simpa using hx)
       rw[hv,this];rfl
     · cases h
   | _=>simp[MJ] at h
 | .row _ _,[],_,_,h,_=>by simp[MJ] at h
 | .int _,[],_,_,h,_=>by simp[MJ] at h
 | .bool,[],_,_,h,_=>by simp[MJ] at h
 | .str,[],_,_,h,_=>by simp[MJ] at h
 | .row _ _,_::_,_,[],_,hr=>hr.elim
 | .int _,_::_,_,[],_,hr=>hr.elim
 | .bool,_::_,_,[],_,hr=>hr.elim
 | .str,_::_,_,[],_,hr=>hr.elim
theorem aY {α:Type} {Rr:α->List Value->Prop} {sz:Nat} {ps:List α} {cs:List Value} {n:Nat} (h:B9 Rr sz ps cs) (hn:n<=ps.length):B9 Rr sz (ps.take n) (cs.take (n*sz)):=by
 have hns:n*sz<=cs.length:=by rw[h.1];exact AUU _ hn
 refine⟨by simp[AUa hn,AUa hns],λj p hj=> ?_⟩;rw[AUf] at hj;split at hj
 · rename_i hlt
   have hjs:j*sz+sz<=n*sz:=(by rw[<-AVB];exact AUU _ hlt);have:=h.2 j p hj;rw[AWi,AWM,AUa (by omega)];exact this
 · cases hj
theorem rA (hΘ:Θ.ok P=true) (I:Inv U0 ν tm hp w0 a w) (hU : ∀q,U0 q->q<w0.heap.size) {t:TypeId} {x y:Operand} (ho:o.op= .makeSlice t x y) (h:(stepT Θ S k tm hp o.dst (.makeSlice t x y) K).run=some r):DE P Θ S k o U0 ν tm hp w0 a w K r:=by
 simp only[stepT] at h;split at h
 · rename_i i q hi hq
   split at h
   · rename_i e hk
     split at h
     · rename_i zi hzi
       split at h
       · rename_i ty hty
         split at h
         · rename_i hc
           obtain⟨hsz,hzb,hb0⟩:=hc
           replace hzb:=ig hzb
           split at h
           · rename_i kl n kc c hx hy
             obtain⟨h0,h⟩:=Tree.need h;obtain⟨hnc,h⟩:=Tree.need h;obtain⟨hby,h⟩:=Tree.need h;have h1:=G0 (hx▸I.Aa x);have h2:=G0 (hy▸I.Aa y);obtain⟨_,d,_,hd,_,_,hB,_⟩:=Bs hΘ hi;rw[hk] at hB;rw[LX hB] at hd;obtain⟨f,_,Yb,_,hs,hbf,_,_,hzl,z,hz,uO⟩:=Bs hΘ hzi;have hzr:Cj (DA U0 ν (lv hp) w) zi.zero z:=NL uO;have h4 : ∀u∈z,u.oneCell'=true:=λu hu=>by
              obtain⟨c,_,hr⟩:=hzr.mem u hu;exact hr.one I.qP
             have htn:(n:Int).toNat<=(c:Int).toNat:=Int.toNat_le_toNat hnc;have hc0:0<=(c:Int):=AV5 h0 hnc;have hcm:(c:Int).toNat<=281474976710656:=AVG (AVk _ (Nat.pos_of_ne_zero hb0)) hby;have hr:=run_make (P:=P) w t e f (Qm z) hd Yb hz kl kc n c h0 hnc (by
              have h3:((f.bytes*(c:Int).toNat:Nat):Int)<=281474976710656:=(by rw[hbf,AV4];omega);rw[AWF,Int.toNat_of_nonneg hc0] at h3;exact h3) (by omega)
             rw[G1 h4,hs,hsz] at hr;refine⟨_,_,h, ?_⟩;intro hh next Q hn
             have hrun:(execOp a.eval o).run P w= .ok (.value (.slice (some ⟨w.heap.size,0,none⟩) (n:Int).toNat (c:Int).toNat)) (w.alloc (.cells (madeCells z.toArray ((c:Int).toNat*ty.size)) e)):=by
              simp[execOp,ho,h1,h2,hr]
             unfold Oper.wp;rw[hrun];rw[hq] at hh hn;obtain⟨hg,hb,_⟩:=Qs hh;show next (a.put o.dst _) _
             rw[hq];refine hn (upd ν q (.slice (some ⟨w.heap.size,0,none⟩) (n:Int).toNat (c:Int).toNat)) _ _ (I.new hU hg hb (by simp) (λk hk=>Below.heap_alloc _ _ _ hk) (λk hk=> ?_) (I.fr.alloc _) (λm hL=> ?_) _)
             · injection hk with hk
               have hk:w.heap.size=k:=hk;omega
             · refine⟨⟨⟨((madeCells z.toArray ((c:Int).toNat*ty.size)).toList).take ((n:Int).toNat*ty.size), ?_, ?_⟩,λk hk=>by rw[Br] at hk;injection hk with hk;exact hk▸I.fr.size⟩,FJ (c:= .own q) ⟨((Eu hg hb).1 q).2 (.inr rfl),by rw[Br];rfl⟩⟩
               · have hle:(n:Int).toNat*ty.size<=(c:Int).toNat*ty.size:=AUU _ htn
                 rw[Br,Gr];refine⟨by simp[size_madeCells,AUa hle], .inr ⟨w.heap.size,(c:Int).toNat,_,by simp,I.fr.size,heap_alloc_new w _,by simpa using htn,by unfold maxLen;omega,by simp[size_madeCells],by simp⟩⟩
               · obtain⟨v1,v2,e1,e2,e3⟩:=Yd (U:=Un U0 (upd ν q (.slice (some ⟨w.heap.size,0,none⟩) (n:Int).toNat (c:Int).toNat)) (lv (hp.set q (.row .mine e ty (List.replicate (n:Int).toNat (dflt ty)))))) hzb (hzr.imp λ_ _ z=>DA.move m hL z)
                 have:v2= []:=by
                  cases v2 with
                  | nil=>rfl
                  | cons _ _=>exact e3.elim
                 subst this;rw[AVW] at e1;subst e1;have AQN:z.length=ty.size:=(by rw[(kd ty).Ei e2.K,Gr]);have hm:=Kd.n8 (R:=λx c'=>Rd (Un U0 (upd ν q (.slice (some ⟨w.heap.size,0,none⟩) (n:Int).toNat (c:Int).toNat)) (lv (hp.set q (.row .mine e ty (List.replicate (n:Int).toNat (dflt ty)))))) _ ty x c') (z:=Qm z) (size:=ty.size) (z0:=dflt ty) (by rw[G1 h4];simp[AQN]) (size_pos ty) (by rw[G1 h4];exact e2) (c:Int).toNat;rw[G1 h4] at hm;have:=aY hm (n:=(n:Int).toNat) (by simpa using htn);rw[List.take_replicate,AUa htn] at this;rw[Gr];exact this
           · cases h
         · cases h
       · cases h
     · cases h
   · cases h
 · cases h
theorem AE4 (hΘ:Θ.ok P=true) (I:Inv U0 ν tm hp w0 a w) (hU : ∀q,U0 q->q<w0.heap.size) {e:TypeId} (ho:o.op= .alloc e) (h:(stepT Θ S k tm hp o.dst (.alloc e) K).run=some r):DE P Θ S k o U0 ν tm hp w0 a w K r:=by
 simp only[stepT] at h;split at h
 · rename_i i t hi hd
   split at h
   · rename_i n e' hk
     split at h
     · rename_i z hz
       split at h
       · rename_i ty hty
         split at h
         · rename_i hsz
           split at h
           · rename_i xs hxs
             have hfz:=Mm (hp:=hp) i.zero;obtain⟨ν',I'⟩:=I.KD hU hfz;obtain⟨f,d,hf,_,_,_,_,_,_,zs,hzv,uO⟩:=Bs hΘ hi;have h3:Cj (DA U0 ν' (lv (Dx (Mv hp i.zero) hp)) w) i.zero zs:=NL uO;have h4 : ∀u∈zs,u.oneCell'=true:=λu hu=>by
              obtain⟨c,_,hr⟩:=h3.mem u hu;exact hr.one I'.qP
             obtain⟨r1,r2,r3⟩:=Tc I' (C6.frz hfz (λj e t xs hj hb=>Pj hj hb) _ _) ((Tb hfz n i.zero).trans hxs) h3;refine⟨_,_,h, ?_⟩;intro hh next Q hn
             have hrun:(execOp a.eval o).run P w= .ok (.value (.pointer (some ⟨w.heap.size,0,none⟩))) (w.alloc (.cells zs.toArray e (0,0))):=by
              have hzv:(zeroValue e).run P w= .ok (Qm zs) w:=(by simp[zeroValue,typeInfo,hf,hzv]);simp only[execOp,ho];simp[Instr.alloc,hzv,newVar,newRow,G1 h4]
             unfold Oper.wp;rw[hrun];rw[hd] at hh hn;obtain⟨hg,hb,_⟩:=Qs hh;have hg':(Dx (Mv hp i.zero) hp)[t]? =some .gone:=by
              rcases Gw hfz t with q | ⟨_,_,_,q,_⟩
              · rw[q,hg]
              · rw[hg] at q;cases q
             show next (a.put o.dst _) _
             rw[hd];refine hn (upd ν' t (.slice (some ⟨w.heap.size,0,none⟩) n n)) _ _ (I'.new hU hg' hb (by simp) (λk hk=>Below.heap_alloc _ _ _ hk) (λk hk=> ?_) (I'.fr.alloc _) (λm hL=> ?_) _)
             · injection hk with hk
               have hk:w.heap.size=k:=hk;omega
             · have hlen:zs.length=List.length xs*(kd ty).sz:=by rw[r2,r1,Gr]
               have hn0:n<=1000:=hsz.2.2.1;refine⟨⟨⟨zs, ?_,hlen,λj p hj=> ?_⟩,λk hk=>by rw[Br] at hk;injection hk with hk;exact hk▸I'.fr.size⟩,FJ (c:= .Jm t) ⟨((Eu hg' hb).1 t).2 (.inr rfl),_,_,_,by rw[Br];rfl,rfl⟩⟩
               · rw[Br,r1]
                 exact⟨by rw[hlen,r1], .inr ⟨w.heap.size,n,zs.toArray,rfl,I'.fr.size,heap_alloc_new w _,AUN _,by unfold maxLen;omega,by simp[hlen,r1],AUS (by simp[hlen,r1])⟩⟩
               · rw[Gr]
                 exact(r3 j p hj).move m
           · cases h
         · cases h
       · cases h
     · cases h
   · exact ADD hΘ I hU ho hi hd h
 · cases h
theorem AE5 (hΘ:Θ.ok P=true) (I:Inv U0 ν tm hp w0 a w) (hU : ∀k,U0 k->k<w0.heap.size) {t:TypeId} {x y:Operand} (ho:o.op= .store t x y) (hd:o.dst=none) (h:(stepT Θ S k tm hp o.dst (.store t x y) K).run=some r):DE P Θ S k o U0 ν tm hp w0 a w K r:=by
 simp only[stepT] at h;split at h
 · rename_i j off xs i hx hy hi
   split at h
   · rename_i lq e cs hb
     split at h
     · rename_i hle
       obtain⟨f,d,hf,_,hs,_⟩:=Bs hΘ hi;obtain⟨hj,g,hν,hv⟩:=val_one (hx▸I.Aa x);obtain⟨g',vs,h1,h2,h3,h4,h5⟩:=I.cells hb;rw[hν] at h1;injection h1 with h1;injection h1 with h1;injection h1 with h1;subst h1;obtain⟨us,e1,e2,e3,e4⟩:=(hy▸I.Aa y:HY U0 ν (lv hp) w (.val xs) (a.eval y)).cells I;have hlen:=h4.len;have hul:=e3.len;obtain⟨w',q1,q2,q3,q4,q5,q6,q7⟩:=NO (P:=P) g e off us 0 vs w h3 (by omega) e4;have hrun:(execOp a.eval o).run P w= .ok .skip w':=by
        simp only[execOp,ho,hv];simp[Instr.storeAt,Instr.sureAddr,storeVar,e2,sizeOf,typeInfo,hf,hs,show us.length=i.size by omega,q1]
       refine⟨_,_,h, ?_⟩;intro hh next Q hn
       unfold Oper.wp;rw[hrun];refine hn ν undef w' ?_;rw[show Qq o.dst hp ⟨none,[(j, .cells lq e (cs.take off++xs++cs.drop (off+i.size)))]⟩=hp.set j (.cells lq e (cs.take off++xs++cs.drop (off+i.size))) from rfl];refine I.AHy hb rfl rfl (by rw[hν];rfl) q3 q4 ⟨q5.trans I.fr.os,q6.trans I.fr.tape,q7.trans I.fr.output,by have:=I.fr.size;omega,λq hq cQ=>(q4 q (h2.ne hq cQ)).trans (I.fr.block q hq cQ)⟩ (by cases lq<;>exact id) (λm=> ?_) _ _;refine⟨g,vs.take off++us++vs.drop (off+us.length),hν,h2,by simpa using q2, ?_⟩;have:=((h4.take off).app e3).app (h4.drop (off+i.size));rw[show off+us.length=off+i.size by omega];exact this.imp λ_ _ z=>DA.move m VR z
     · cases h
   · cases h
 · rename_i j q sz ys i hx hy hi
   split at h
   · rename_i lq e t' xs hb
     split at h
     · rename_i hc
       obtain⟨hz,hiz,hin⟩:=hc;split at h
       · rename_i y' hy'
         obtain⟨f,d,hf,_,hs,_⟩:=Bs hΘ hi;have hfz:=Mm (hp:=hp) ys;obtain⟨ν',I'⟩:=I.KD hU hfz;have hb':(Dx (Mv hp ys) hp)[j]? =some (.row lq e t' xs):=by
          rcases Gw hfz j with q | ⟨_,_,_,_,_,q⟩
          · exact q.trans hb
          · rw[hin] at q;cases q
         obtain⟨us,e1,e2,e3,e4⟩:=(hy▸I'.Aa y:HY U0 ν' (lv (Dx (Mv hp ys) hp)) w (.val ys) (a.eval y)).cells I';obtain⟨v1,v2,rfl,hrd,hnil⟩:=vU I hU hfz (λj e t xs hj hb=>Pj hj hb) hy' I' e3;have:v2= []:=by
          cases v2 with
          | nil=>rfl
          | cons _ _=>exact hnil.elim
         subst this;rw[AVW] at e2 e4;have hul:v1.length=t'.size:=(by rw[(kd t').Ei hrd.K,Gr]);obtain⟨g,cap,cur,inner,h1,h2,h3,h4,h5,h6,h7,hv⟩:=I'.zH hb' (val_one (hx▸I'.Aa x)) hz;have V9:=Gr t';have hfit:q.toNat*t'.size+t'.size<=List.length xs*(kd t').sz:=(by rw[V9,<-AVB];exact AUU _ h7);have hcl:List.length xs*(kd t').sz<=cur.toList.length:=by
          have:=congrArg List.length h4;rw[AUJ,h5.1] at this;omega
         obtain⟨w',q1,q2,q3,q4,q5,q6,q7⟩:=NO (P:=P) g e (q.toNat*t'.size) v1 0 cur.toList w (by simpa using h3) (by omega) e4;have hrun:(execOp a.eval o).run P w= .ok .skip w':=by
          simp only[execOp,ho,hv];simp[Instr.storeAt,Instr.sureAddr,storeVar,e2,sizeOf,typeInfo,hf,hs,show v1.length=i.size by omega,q1]
         refine⟨_,_,h, ?_⟩;intro hh next Q hn
         unfold Oper.wp;rw[hrun];refine hn ν' undef w' ?_;rw[show Qq o.dst hp ⟨none,(j, .row lq e t' ((xs:List (T t')).set q.toNat y'))::Mv hp ys⟩=(Dx (Mv hp ys) hp).set j (.row lq e t' ((xs:List (T t')).set q.toNat y')) from rfl];refine I'.AHy hb' rfl rfl (by rw[h1];rfl) q3 q4 ⟨q5.trans I.fr.os,q6.trans I.fr.tape,q7.trans I.fr.output,by have:=I.fr.size;omega,λz hz cQ=>(q4 z (h2.ne hz cQ)).trans (I.fr.block z hz cQ)⟩ (by cases lq<;>exact id) (λm=> ?_) _ _;refine⟨⟨inner.take (q.toNat*t'.size)++v1++inner.drop (q.toNat*t'.size+t'.size), ?_, ?_⟩,λk hk=>by rw[h1] at hk;injection hk with hk;exact hk▸h2⟩
         · refine⟨by have:=h5.1;simp only[AUR,AUJ,AUn,hul,AUz];omega, .inr ⟨g,cap,_,by rw[h1];simp,YK h2,q2, ?_⟩⟩
           rcases h5.2 with⟨z,_⟩ | ⟨g',cap',cur',z,z2,z3,z4,z5,z6,z7⟩
           · rw[h1] at z;cases z
           · rw[h1] at z
             injection z with z1 z8 z9;injection z1 with z1;injection z1 with z1;subst z1 z9;rw[h3] at z3;injection z3 with z3;injection z3 with z3;subst z3;refine⟨by simpa using z4,z5, ?_, ?_⟩
             · have:cur.toList.length=cur.size:=by simp
               simp[hul];omega
             · simp only[AXA,AUz]
               rw[<-h4,vV _ _ _ _ (by omega) hcl,hul]
         · exact(ug (by rw[V9] at h6;exact h6) hrd hul h7 |> λz=>by rw[V9];exact z.Ig λ_ _ z=>z.move m)
       · cases h
     · cases h
   · cases h
 · rename_i j ys i hx hy hi
   split at h
   · rename_i n e' hk
     split at h
     · rename_i lq e t' xs hb
       split at h
       · rename_i hc
         obtain⟨his,hin⟩:=hc;split at h
         · rename_i xs' hxs
           obtain⟨hln,h⟩:=Tree.need h;obtain⟨f,d,hf,_,hs,_⟩:=Bs hΘ hi;have hfz:=Mm (hp:=hp) ys;obtain⟨ν',I'⟩:=I.KD hU hfz;have hb':(Dx (Mv hp ys) hp)[j]? =some (.row lq e t' xs):=by
            rcases Gw hfz j with q | ⟨_,_,_,_,_,q⟩
            · exact q.trans hb
            · rw[hin] at q;cases q
           obtain⟨us,e1,e2,e3,e4⟩:=(hy▸I'.Aa y:HY U0 ν' (lv (Dx (Mv hp ys) hp)) w (.val ys) (a.eval y)).cells I';obtain⟨r1,r2,r3⟩:=Tc I' (C6.frz hfz (λj e t xs hj hb=>Pj hj hb) _ _) ((Tb hfz n ys).trans hxs) e3;obtain⟨hj,g0,n0,c0,hν0,hv⟩:=val_one (hx▸I'.Aa x);obtain⟨⟨inner,h4,h5⟩,hmn⟩:=I'.mem j _ hb' rfl;rcases h4.2 with⟨q,_⟩ | ⟨g,cap,cur,q,q2,q3,q4,q5,q6,q7⟩
           · rw[q] at hν0;cases hν0
           · rw[q] at hν0
             injection hν0 with z1 z2 z3;injection z1 with z1;injection z1 with z1;subst z1;have V9:=Gr t';have hm:=hmn g (by rw[q];rfl);have hul:us.length=List.length xs*t'.size:=(by rw[r2,hln]);have hcl:List.length xs*t'.size<=cur.toList.length:=by
              have:=congrArg List.length q7;rw[AUJ,h4.1,V9] at this;omega
             obtain⟨w',p1,p2,p3,p4,p5,p6,p7⟩:=NO (P:=P) g e 0 us 0 cur.toList w (by simpa using q3) (by omega) e4;have hrun:(execOp a.eval o).run P w= .ok .skip w':=by
              simp only[execOp,ho,hv];simp[Instr.storeAt,Instr.sureAddr,storeVar,e2,sizeOf,typeInfo,hf,hs,show us.length=i.size by rw[r2,his],p1]
             refine⟨_,_,h, ?_⟩;intro hh next Q hn
             unfold Oper.wp;rw[hrun];refine hn ν' undef w' ?_;rw[show Qq o.dst hp ⟨none,(j, .row lq e t' xs')::Mv hp ys⟩=(Dx (Mv hp ys) hp).set j (.row lq e t' xs') from rfl];refine I'.AHy hb' rfl rfl (by rw[q];rfl) p3 p4 ⟨p5.trans I.fr.os,p6.trans I.fr.tape,p7.trans I.fr.output,by have:=I.fr.size;omega,λz hz cQ=>(p4 z (hm.ne hz cQ)).trans (I.fr.block z hz cQ)⟩ (by cases lq<;>exact id) (λm=> ?_) _ _;have hll:List.length xs'=List.length xs:=(by rw[r1,hln]);refine⟨⟨us,⟨by rw[hul,hll,V9], .inr ⟨g,cap,_,by rw[q,hll],YK hm,p2,by rw[hll];exact q4,q5, ?_, ?_⟩⟩,⟨by rw[hul,hll,V9],λi p hi=>by rw[V9];exact(r3 i p hi).move m⟩⟩,λk hk=>by rw[q] at hk;injection hk with hk;exact hk▸hm⟩
             · have:cur.toList.length=cur.size:=by simp
               simp;omega
             · rw[hll,V9,<-hul]
               simp
         · cases h
       · cases h
     · cases h
   · cases h
 · cases h
theorem AKh (hS:Gu P S k) (I:Inv U0 ν tm hp w0 a w) (hU : ∀q,U0 q->q<w0.heap.size) {c:Call} {g:FuncId} (hg:c.callee= .value (.func g)) (ho:o.op= .call c) {s:uq} (hs:S g=some (.nw s)) {x:TT s.ps} (hx:args hp tm s.ps c.args.toList=some x) {t:Tmp} (hd:o.dst=some t) (h:(Tree.nD (s.f k x) λr=>K (.val [.own t]) ⟨some (.row .mine s.e s.t r),Jk hp tm c.args.toList⟩).run=some r):DE P Θ S k o U0 ν tm hp w0 a w K r:=by
 obtain⟨y,hf,h⟩:=Tree.VT h;refine⟨_,_,h, ?_⟩;intro hh next Q hn
 obtain⟨hb,hk⟩:=hS g _ hs;have hrun:(execOp a.eval o).run P w= .ok (.enter g (c.args.toList.map a.eval).toArray) w:=VY hg ho hb;unfold Oper.wp;rw[hrun];have hfz:=YX (hp:=hp) (tm:=tm) c.args.toList;obtain⟨ν',I'⟩:=I.KD hU hfz;have hUn : ∀q,Un U0 ν' (lv (Dx (Jk hp tm c.args.toList) hp)) q->q<w.heap.size:=λq hq=>by
  rcases hq with hq | ⟨j,hj,hb⟩
  · exact AVC (hU q hq) I'.fr.size
  · exact(I'.lt hj hb).1
 rw[Oper.upon_enter];refine(hk k (AUN _) x y hf _ w _ hUn (Ta I' (λq _ hq=>hq) (λo' ho'=>C6.frz hfz (λj e t xs hj hb=>YZ ho' hj hb) _ _) ((YY hfz _ _).trans hx))).mono λe w' hq=> ?_
 obtain⟨v,inner,rfl,hown,zS,TL⟩:=hq;show next (a.put o.dst v) w'
 rw[hd] at hh hn ⊢;obtain⟨hg,hb',_⟩:=Qs hh;have hg':(Dx (Jk hp tm c.args.toList) hp)[t]? =some .gone:=by
  rcases Gw hfz t with q | ⟨_,_,_,q,_⟩
  · rw[q,hg]
  · rw[hg] at q;cases q
 have hnew : ∀k,DO v=some k->w.heap.size<=k:=λk hk=>by
  rcases hown.2 with⟨q,_⟩ | ⟨g,cap,cur,q,q2,_⟩
  · rw[q] at hk;cases hk
  · rw[q] at hk;injection hk with hk;exact hk▸q2
 have AQO:ref v=v:=by
  rcases hown.2 with⟨q,_⟩ | ⟨g,cap,cur,q,_⟩<;>rw[q]<;>rfl
 refine hn (upd ν' t v) v w' (I'.new hU hg' hb' TL.size TL.block hnew (I'.fr.step TL) (λm hL=> ?_) _);refine⟨⟨⟨inner, ?_,zS.Ig λ_ _ z=>z.move ⟨AUN _,λ_ _ _=>rfl,λq _ hu=> ?_⟩⟩,λk hk=>by rw[Br] at hk;exact Mj.new (AVG I'.fr.size (hnew k hk))⟩,FJ (c:= .own t) ⟨((Eu hg' hb').1 t).2 (.inr rfl),by rw[Br];exact AQO.symm⟩⟩
 · rw[Br]
   refine⟨hown.1,hown.2.imp id λ⟨g,cap,cur,q,q2,q3⟩=>⟨g,cap,cur,q,AVG (YK (Mj.new (q:= .mine) I'.fr.size)) q2,q3⟩⟩
 · obtain⟨hlv,hnt⟩:=Eu hg' hb'
   rcases hu with hu | ⟨j,hj,iZ⟩
   · exact .inl (.inl hu)
   · rcases(hlv j).1 hj with hj | hj
     · rw[HZ (λz:j=t=>hnt (z▸hj))] at iZ;exact .inl (.inr ⟨j,hj,iZ⟩)
     · subst hj
       rw[Br] at iZ;exact .inr iZ
end
end
end Go.Proofs.YtjocbnjpjihpnaaGreatW.Ic
end
section
namespace Go.Proofs.YtjocbnjpjihpnaaGreatW.Ic
open Go.RowKit Go.Proofs.YtjocbnjpjihpnaaGreatW.AH Go.Proofs.YtjocbnjpjihpnaaGreatW.AX Go.Proofs.YtjocbnjpjihpnaaGreatW.Ad
set_option linter.unusedVariables false
set_option linter.unusedSectionVars false
set_option linter.unusedSimpArgs false
section
section
variable {P:Program} {Θ:Lz} {S:FuncId->Option FE} {k:Nat} {o:Oper} {U0:Nat->Prop} {ν:Nat->Value} {tm:List AV} {hp:List AB} {w0:St} {w:World} {a:Act} {R:Type} {K:AV->HC->Tree R} {r:R}
def grown (ν:Nat->Value) (src:List (Nat × AB)) (q:Nat) (v:Value):Nat->Value:=upd (match src with
 | (j,_)::_=>upd ν j (.tuple #[ν j])
 | []=>ν) q v
theorem Inv.grow (I:Inv U0 ν tm hp w0 a w) (hU : ∀k,U0 k->k<w0.heap.size) {src:List (Nat × AB)} {q:Nat} {b:AB} {v v' u:Value} {x:AV} {w':World} (hsrc:(src= []/\v.ownBlock=none)\/ ∃j lq e t xs,src= [(j, .used)]/\hp[j]? =some (.row lq e t xs)/\v=ν j/\TO (.row lq e t xs)=false) (hg:hp[q]? =some .gone) (hb:FI b=false)
 (gr:w.grownBy w' v.ownBlock) (hv':DO v'=v'.ownBlock) (Pe:v'.ownBlock=v.ownBlock\/v'.ownBlock=some w.heap.size)
 (hB:Move (Un U0 ν (lv hp)) w w' (Un U0 (grown ν src q v') (lv ((Dx src hp).set q b)))->(∀j,lv hp j->lv ((Dx src hp).set q b) j/\Kp ν (grown ν src q v') j)->V2 U0 (grown ν src q v') (lv ((Dx src hp).set q b)) w0 w' q b/\HY U0 (grown ν src q v') (lv ((Dx src hp).set q b)) w' x u) (d:Option Tmp) :
 Inv U0 (grown ν src q v') (OX tm d x) ((Dx src hp).set q b) w0 (a.put d u) w':=by
 obtain⟨ATm,hnq⟩:=Eu hg hb;have hql:=(AUI.1 hg).1;have hj : ∀j b',(j,b')∈src->b'= .used/\src= [(j, .used)]/\ ∃lq e t xs,hp[j]? =some (.row lq e t xs)/\v=ν j:=λj b' hm=>by
  rcases hsrc with⟨h,_⟩ | ⟨i,lq,e,t,xs,h,h1,h2,_⟩
  · rw[h] at hm;cases hm
  · rw[h,AWA] at hm
    injection hm with e1 e2;subst e1 e2;exact⟨rfl,h,lq,e,t,xs,h1,h2⟩
 have AE6 : ∀i,(Dx src hp)[i]? =hp[i]? \/(src= [(i, .used)]/\(Dx src hp)[i]? =some .used):=λi=>by
  rcases hsrc with⟨h,_⟩ | ⟨j,lq,e,t,xs,h,h1,_⟩
  · rw[h];exact .inl rfl
  · rw[h]
    by_cases hij:j=i
    · subst hij
      exact .inr ⟨rfl,by simp[Dx,(AUI.1 h1).1]⟩
    · exact .inl (by simp[Dx,AUc hij])
 have hgq:(Dx src hp)[q]? =some .gone:=by
  rcases AE6 q with h | ⟨h,_⟩
  · rw[h,hg]
  · obtain⟨_,_,lq,e,t,xs,h1,_⟩:=hj q .used (by rw[h];exact AWc _)
    rw[hg] at h1;cases h1
 have hlc : ∀i,lv (Dx src hp) i↔lv hp i:=λi=>by
  unfold lv;rcases AE6 i with h | ⟨h,h2⟩
  · rw[h]
  · obtain⟨_,_,lq,e,t,xs,h1,_⟩:=hj i .used (by rw[h];exact AWc _)
    rw[h1,h2];exact⟨λ_=>⟨_,rfl,rfl⟩,λ_=>⟨_,rfl,rfl⟩⟩
 have hlv : ∀i,lv ((Dx src hp).set q b) i↔lv hp i\/i=q:=λi=>((Eu hgq hb).1 i).trans (or_congr (hlc i) Iff.rfl)
 have hne : ∀i,lv hp i->i≠q:=λi hi e=>hnq (e▸hi)
 have hν : ∀i,i≠q->grown ν src q v' i=ν i\/(src= [(i, .used)]/\grown ν src q v' i= .tuple #[ν i]/\v=ν i/\ ∃lq e t xs,hp[i]? =some (.row lq e t xs)):=λi hi=>by
  rcases hsrc with⟨h,_⟩ | ⟨j,lq,e,t,xs,h,h1,h2,_⟩
  · exact .inl (by unfold grown;rw[HZ hi,h])
  · by_cases hij:i=j
    · subst hij
      exact .inr ⟨h,by unfold grown;rw[HZ hi,h];exact Br,h2,lq,e,t,xs,h1⟩
    · exact .inl (by unfold grown;rw[HZ hi,h];exact HZ hij)
 have hνq:grown ν src q v' q=v':=Br;have hL : ∀i,lv hp i->lv ((Dx src hp).set q b) i/\Kp ν (grown ν src q v') i:=λi hi=>⟨(hlv i).2 (.inl hi),by
  rcases hν i (hne i hi) with h | ⟨_,h,_,lq,e,t,xs,h1⟩
  · exact .inl h
  · obtain⟨_,A,c,hs⟩:=(I.mem i _ h1 rfl).N0 (U:=λ_=>False) (λ_ _ z=>z.elim)
    exact .inr ⟨A,_,c,hs,h⟩⟩
 have hvb : ∀k,v.ownBlock=some k-> ∃j,lv hp j/\DO (ν j)=some k/\src= [(j, .used)]:=λk hk=>by
  rcases hsrc with⟨_,h⟩ | ⟨j,lq,e,t,xs,h,h1,h2,_⟩
  · rw[h] at hk;cases hk
  · refine⟨j,⟨_,h1,rfl⟩, ?_,h⟩
    obtain⟨_,A,c,hs⟩:=(I.mem j _ h1 rfl).N0 (U:=λ_=>False) (λ_ _ z=>z.elim);rw[h2,hs] at hk;rw[hs];cases A with
    | none=>cases hk
    | some ad=>exact hk
 have ADH : ∀i k,lv ((Dx src hp).set q b) i->DO (grown ν src q v' i)=some k->(i≠q/\lv hp i/\DO (ν i)=some k/\v.ownBlock≠some k)\/(i=q/\(v.ownBlock=some k\/k=w.heap.size)):=λi k hi h=>by
  by_cases zK:i=q
  · subst zK
    rw[hνq,hv'] at h;refine .inr ⟨rfl, ?_⟩;rcases Pe with z | z
    · exact .inl (z.symm.trans h)
    · rw[z] at h;injection h with h;exact .inr h.symm
  · have hi':lv hp i:=((hlv i).1 hi).resolve_right zK
    rcases hν i zK with z | ⟨_,z,_⟩
    · rw[z] at h
      refine .inl ⟨zK,hi',h,λhk=> ?_⟩;obtain⟨j,hjl,hjb,hs⟩:=hvb k hk;by_cases hij:i=j
      · subst hij
        rcases hν i zK with y | ⟨_,y,_⟩
        · rcases hsrc with⟨s,_⟩ | ⟨j',lq,e,t,xs,s,h1,h2,_⟩
          · rw[hs] at s;cases s
          · rw[hs] at s
            injection s with s _;injection s with s _;subst s;obtain⟨_,A,c,nC⟩:=(I.mem i _ h1 rfl).N0 (U:=λ_=>False) (λ_ _ z=>z.elim);unfold grown at y;rw[HZ zK,hs] at y;have:(Value.tuple #[ν i])=ν i:=(Br (ν:=ν) (t:=i)).symm.trans y;rw[nC] at this;cases this
        · rw[z] at y
          rcases hsrc with⟨s,_⟩ | ⟨j',lq,e,t,xs,s,h1,h2,_⟩
          · rw[hs] at s;cases s
          · rw[hs] at s
            injection s with s _;injection s with s _;subst s;obtain⟨_,A,c,nC⟩:=(I.mem i _ h1 rfl).N0 (U:=λ_=>False) (λ_ _ z=>z.elim);rw[nC] at y;cases y
      · exact I.zI i j hij hi' hjl k h hjb
    · rw[z] at h;cases h
 have m:Move (Un U0 ν (lv hp)) w w' (Un U0 (grown ν src q v') (lv ((Dx src hp).set q b))):=by
  refine⟨gr.size,λk hk hu=>gr.block k hk λz=> ?_,λk hk hun=> ?_⟩
  · obtain⟨j,hjl,hjb,_⟩:=hvb k z.symm
    exact hu (.inr ⟨j,hjl,hjb⟩)
  · rcases hun with hun | ⟨i,hi,hbi⟩
    · exact .inl hun
    · rcases ADH i k hi hbi with⟨_,h1,h2,_⟩ | ⟨_,h | h⟩
      · exact .inr ⟨i,h1,h2⟩
      · obtain⟨j,hjl,hjb,_⟩:=hvb k h
        exact .inr ⟨j,hjl,hjb⟩
      · omega
 obtain⟨hBq,hx⟩:=hB m hL;have hF:Since w0 w':=⟨gr.os.trans I.fr.os,gr.tape.trans I.fr.tape,gr.output.trans I.fr.output,AVG I.fr.size gr.size,λk hk cQ=>by
  have:=I.fr.size;rw[gr.block k (by omega) (λz=> ?_),I.fr.block k hk cQ];obtain⟨j,hjl,hjb,_⟩:=hvb k z.symm;rcases(I.lt hjl hjb).2 with z | z
  · omega
  · exact cQ z⟩
 refine I.put d x u m hL hx (λi b' h1 h2=> ?_) (λi i' hii hi hi' k h1 h2=> ?_) hF (I.fx.AEX λi b' h1 h2=> ?_)
 · by_cases zK:q=i
   · subst zK
     rw[AU7 (AUI.1 hgq).1] at h1;injection h1 with h1;subst h1;exact hBq
   · rw[AUc zK] at h1
     rcases AE6 i with z | ⟨z,z2⟩
     · rw[z] at h1
       rcases hν i (λe=>zK e.symm) with y | ⟨s,y,_,lq,e,t,xs,y2⟩
       · refine(I.mem i b' h1 h2).move m hL y λk hk=>gr.block k (I.lt ⟨b',h1,h2⟩ hk).1 λzz=> ?_
         have:=ADH i k ((hlv i).2 (.inl ⟨b',h1,h2⟩)) (by rw[y];exact hk);rcases this with⟨_,_,_,z3⟩ | ⟨z3,_⟩
         · exact z3 zz.symm
         · exact zK z3.symm
       · rcases AE6 i with _ | ⟨_,z4⟩
         · have:(Dx src hp)[i]? =some .used:=by rw[s];simp[Dx,(AUI.1 y2).1]
           rw[z,h1] at this;injection this with this;subst this;rw[h1] at y2;cases y2
         · rw[z,h1] at z4
           injection z4 with z4;subst z4;rw[h1] at y2;cases y2
     · rw[z2] at h1
       injection h1 with h1;subst h1;rcases hν i (λe=>zK e.symm) with y | ⟨s,y,_,lq,e,t,xs,y2⟩
       · obtain⟨_,_,lq,e,t,xs,h1,_⟩:=hj i .used (by rw[z];exact AWc _)
         obtain⟨_,A,c,nC⟩:=(I.mem i _ h1 rfl).N0 (U:=λ_=>False) (λ_ _ z=>z.elim);unfold grown at y;rw[HZ (λe=>zK e.symm),z] at y;have:(Value.tuple #[ν i])=ν i:=(Br (ν:=ν) (t:=i)).symm.trans y;rw[nC] at this;cases this
       · obtain⟨_,A,c,nC⟩:=(I.mem i _ y2 rfl).N0 (U:=λ_=>False) (λ_ _ z=>z.elim)
         exact⟨ν i,y,by rw[nC];rfl⟩
 · rcases ADH i k hi h1 with⟨n1,l1,b1,c1⟩ | ⟨n1,c1⟩<;>rcases ADH i' k hi' h2 with⟨n2,l2,b2,c2⟩ | ⟨n2,c2⟩
   · exact I.zI i i' hii l1 l2 k b1 b2
   · rcases c2 with c2 | c2
     · exact c1 c2
     · have:=(I.lt l1 b1).1;omega
   · rcases c1 with c1 | c1
     · exact c2 c1
     · have:=(I.lt l2 b2).1;omega
   · exact hii (n1.trans n2.symm)
 · have zK:i≠q:=by
    rintro rfl;rw[hg] at h1;injection h1 with h1;subst h1;cases h2
   have hni : ∀b2,src≠ [(i,b2)]:=by
    rintro b2 hs;rcases hsrc with⟨s,_⟩ | ⟨j',lq,e,t,xs,s,z1,_,z2⟩
    · rw[hs] at s;cases s
    · rw[hs] at s
      injection s with s _;injection s with s _;subst s;rw[h1] at z1;injection z1 with z1;subst z1;rw[h2] at z2;cases z2
   refine⟨?_,b', ?_,h2⟩
   · rcases hν i zK with y | ⟨s,_⟩
     · exact y
     · exact absurd s (hni _)
   · rw[AUc (AXF zK)]
     rcases AE6 i with y | ⟨s,_⟩
     · rw[y];exact h1
     · exact absurd s (hni _)
theorem AE7 {U:Nat->Prop} {e:TypeId} {t:Ty} {ys:List (T t)} {v:Value} (h:Rd U w (.row e t) ys [v]) : ∃A cp news,v= .slice A (List.length ys) cp/\List.length ys<=cp/\B9 (λx c=>Rd U w t x c) t.size ys news/\(∀ad,A=some ad-> ∀i u,news[i]? =some u->w.cell? (ad.add i)=some u)/\(A=none->ys= [])/\List.length ys<=9223372036854775807:=by
 obtain⟨A,cp,h1,h2,h3,h4⟩:=h;have h1:=(AVY h1).1;rcases AV9 (List.length ys) with hz | hz
 · obtain rfl:ys= []:=AU0 hz
   exact⟨A,cp,[],h1,h2,B9.none _ _,λ_ _ i u hu=>by simp at hu,λ_=>rfl,h3⟩
 · obtain⟨ad,rfl,h5⟩:=h4 hz
   have hR:Fl (λx c=>Rd U w t x c) t.size w (some ad) (List.length ys) ys:=⟨rfl,h3,λ_=>⟨ad,rfl,λj p hj=>by
    obtain⟨c,q1,q2⟩:=h5 j p hj;exact⟨c,by rw[(kd t).Ei q1.K,Gr],q1,λi u hu=>(q2 i u hu).now⟩⟩⟩
   obtain⟨inner,q1,q2⟩:=Fl.AEK hR;exact⟨some ad,cp,inner,h1,h2,q1,λad' e'=>by injection e' with e';subst e';exact q2,λz=>(by cases z),h3⟩
theorem AB0 (I:Inv U0 ν tm hp w0 a w) {e:TypeId} {t:Ty} {c:AC} {ys:List (T t)} {v:Value} (h:YN hp e t c=some ys) (hv:DA U0 ν (lv hp) w c v) : ∃A cp news,v= .slice A (List.length ys) cp/\List.length ys<=cp/\B9 (λx c=>Rd (Un U0 ν (lv hp)) w t x c) t.size ys news/\(∀ad,A=some ad-> ∀i u,news[i]? =some u->w.cell? (ad.add i)=some u)/\(A=none->ys= [])/\List.length ys<=9223372036854775807:=by
 unfold YN at h;split at h
 · rename_i xs hx
   injection h with h;subst h;cases c with
   | ro t' y =>
     simp only[Fk] at hx;split at hx
     · rename_i e'
       subst e';injection hx with hx;injection hx with hx _;subst hx;exact AE7 hv.2
     · cases hx
   | CA =>
     simp only[Fk] at hx;injection hx with hx;injection hx with hx _;subst hx;have hv:v= .slice none 0 0:=hv;exact⟨none,0,[],hv,AUN _,B9.none _ _,λ_ z=>(by cases z),λ_=>rfl,by simp⟩
   | own j =>
     simp only[Fk] at hx;split at hx
     · rename_i zs hz
       injection hx with hx;injection hx with hx _;subst hx;unfold ownRow at hz;split at hz
       · rename_i e' t' ws hb
         split at hz
         · rename_i q
           obtain⟨rfl,rfl⟩:=q;injection hz with hz;subst hz;obtain⟨⟨inner,h1,h2⟩,_⟩:=I.mem j _ hb rfl;rw[Gr] at h2;have hv:v=ref (ν j):=hv.2;rcases h1.2 with⟨q1,q2⟩ | ⟨g,cap,cur,q1,q2,q3,q4,q5,q6,q7⟩
           · obtain rfl:ws= []:=AU0 q2
             rw[q1] at hv;exact⟨none,0,[],hv,AUN _,B9.none _ _,λ_ z=>(by cases z),λ_=>rfl,by simp⟩
           · refine⟨some ⟨g,0,none⟩,cap,inner,by rw[hv,q1];rfl,q4,h2,λad z=> ?_,λz=>(by cases z),AVG q4 (by unfold maxLen at q5;omega)⟩
             injection z with z;subst z;intro i u hu;rw[<-q7,AUf] at hu;split at hu
             · rw[KI,MI q3,AWG]
               simpa using hu
             · cases hu
         · cases hz
       · rename_i e' t' ws hb
         split at hz
         · rename_i q
           obtain⟨rfl,rfl⟩:=q;injection hz with hz;subst hz;obtain⟨u,h1,h2⟩:=I.mem j _ hb rfl;have:v=u:=(by rw[hv.2,h1];rfl);rw[this];exact AE7 h2
         · cases hz
       · cases hz
     · cases hx
   | _=>simp[Fk] at hx
 · cases h
theorem AH1 (I:Inv U0 ν tm hp w0 a w) {e:TypeId} {t:Ty} {c:AC} {ys:List (T t)} {v:Value} (h:oG hp e t c=some ys) (hv:DA U0 ν (lv hp) w c v) : ∃A cp news,v= .slice A (List.length ys) cp/\List.length ys<=cp/\B9 (λx c=>Rd (Un U0 ν (lv hp)) w t x c) t.size ys news/\(∀ad,A=some ad-> ∀i u,news[i]? =some u->w.cell? (ad.add i)=some u)/\(A=none->ys= [])/\List.length ys<=9223372036854775807:=by
 unfold oG at h;split at h
 · rename_i j
   split at h
   · rename_i lq e' t' ws hb
     split at h
     · rename_i q
       obtain⟨rfl,rfl⟩:=q;injection h with h;subst h;obtain⟨⟨inner,h1,h2⟩,_⟩:=I.mem j _ hb rfl;rw[Gr] at h2;have hv:v=ref (ν j):=hv.2;rcases h1.2 with⟨q1,q2⟩ | ⟨g,cap,cur,q1,q2,q3,q4,q5,q6,q7⟩
       · obtain rfl:ws= []:=AU0 q2
         rw[q1] at hv;exact⟨none,0,[],hv,AUN _,B9.none _ _,λ_ z=>(by cases z),λ_=>rfl,by simp⟩
       · refine⟨some ⟨g,0,none⟩,cap,inner,by rw[hv,q1];rfl,q4,h2,λad z=> ?_,λz=>(by cases z),AVG q4 (by unfold maxLen at q5;omega)⟩
         injection z with z;subst z;intro i u hu;rw[<-q7,AUf] at hu;split at hu
         · rw[KI,MI q3,AWG]
           simpa using hu
         · cases hu
     · cases h
   · exact AB0 I h hv
 · exact AB0 I h hv
theorem AE8 (I:Inv U0 ν tm hp w0 a w) {e:TypeId} {t:Ty} {c:AC} {src:List (Nat × AB)} {lq:Lq} {xs:List (T t)} {v:Value} (h:Og hp e t c=some (src,lq,xs)) (hv:DA U0 ν (lv hp) w c v) :
 ∃inner,w.ownsRow (bs w0 lq) e (kd t).sz v (List.length xs) inner/\B9 (λx c=>Rd (Un U0 ν (lv hp)) w t x c) (kd t).sz xs inner/\((src= []/\v.ownBlock=none)\/ ∃j lq e t xs,src= [(j, .used)]/\hp[j]? =some (.row lq e t xs)/\v=ν j/\TO (.row lq e t xs)=false)/\ ∀k,v.ownBlock=some k->Mj w0 lq k:=by
 cases c with
 | CA =>
   simp only[Og] at h;injection h with h;injection h with h1 h2;injection h2 with h2 h3;subst h1 h2 h3;have hv:v= .slice none 0 0:=hv;subst hv;exact⟨[],World.ownsRow_nil w _ _ _,B9.none _ _, .inl ⟨rfl,rfl⟩,λk hk=>(by cases hk)⟩
 | own j =>
   have fin : ∀ {lq':Lq} {e':TypeId} {t':Ty} {ws:List (T t')},hp[j]? =some (.row lq' e' t' ws)->TO (.row lq' e' t' ws)=false->(if h:e'=e/\t'=t then h.2▸some ([(j,AB.used)],lq',ws) else none)=some (src,lq,xs)-> ∃inner,w.ownsRow (bs w0 lq) e (kd t).sz v (List.length xs) inner/\B9 (λx c=>Rd (Un U0 ν (lv hp)) w t x c) (kd t).sz xs inner/\((src= []/\v.ownBlock=none)\/ ∃j lq e t xs,src= [(j, .used)]/\hp[j]? =some (.row lq e t xs)/\v=ν j/\TO (.row lq e t xs)=false)/\ ∀k,v.ownBlock=some k->Mj w0 lq k:=by
    intro lq' e' t' ws hb hf h;split at h
    · rename_i q
      obtain⟨rfl,rfl⟩:=q;injection h with h;injection h with h1 h2;injection h2 with h2 h3;subst h1 h2 h3;obtain⟨⟨inner,h1,h2⟩,h3⟩:=I.mem j _ hb rfl;have:v=ν j/\DO (ν j)=(ν j).ownBlock:=by
       rw[hv.2];rcases h1.2 with⟨q1,_⟩ | ⟨_,_,_,q1,_⟩<;>rw[q1]<;>exact⟨rfl,rfl⟩
      obtain⟨rfl,hbl⟩:=this;exact⟨inner,h1,h2, .inr ⟨j,lq',e',t',ws,rfl,hb,rfl,hf⟩,λk hk=>h3 k (hbl.trans hk)⟩
    · cases h
   simp only[Og] at h;split at h
   · rename_i e' t' ws hb
     exact fin hb rfl h
   · rename_i e' t' ws hb
     exact fin hb rfl h
   · cases h
 | _=>simp[Og] at h
theorem AE9 {α:Type} {Rr:α->List Value->Prop} {sz:Nat} {xs ys:List α} {cs ds:List Value} (h:B9 Rr sz xs cs) (h':B9 Rr sz ys ds):B9 Rr sz (xs++ys) (cs++ds):=by
 refine⟨by rw[AUR,AUR,h.1,h'.1,AWT],λj p hj=> ?_⟩;rcases AUq j xs.length with hl | hl
 · rw[AVA hl] at hj
   have hs:j*sz+sz<=cs.length:=(by rw[h.1,<-AVB];exact AUU _ hl);have:=h.2 j p hj;rw[AVg (by omega),AVV (by rw[AUn];omega)];exact this
 · rw[AVH hl] at hj
   have hs:cs.length<=j*sz:=(by rw[h.1];exact AUU _ hl);have:=h'.2 _ p hj;rw[AV7,AUi hs,AV1,h.1,<-Nat.sub_mul];exact this
theorem ADI (hΘ:Θ.ok P=true) (I:Inv U0 ν tm hp w0 a w) (hU : ∀k,U0 k->k<w0.heap.size) {c:Call} (hc:c.callee= .builtin .append) (ho:o.op= .call c) (h:(stepT Θ S k tm hp o.dst (.call c) K).run=some r):DE P Θ S k o U0 ν tm hp w0 a w K r:=by
 simp only[stepT,hc] at h;split at h
 · rename_i x y t t2 q hxs hts hq
   split at h
   · rename_i htt
     subst htt;have hop:o.op= .call {callee:= .builtin .append,args:= #[x,y],argTypes:= #[t,t]} :=by
      rw[ho,jV hc hxs]
      congr 2
      exact AWt.1 hts
     split at h
     · rename_i i hi
       split at h
       · rename_i e hk
         split at h
         · rename_i z hz
           split at h
           · rename_i ty hty
             split at h
             · rename_i hzz
               obtain⟨hsz,hb0⟩:=hzz;split at h
               · rename_i cx cy hx hy
                 split at h
                 · rename_i src lq xs ys hg hr
                   · obtain⟨hby,h⟩:=Tree.need h
                     obtain⟨_,d,_,hd,_,_,hB,_⟩:=Bs hΘ hi;rw[hk] at hB;rw[LX hB] at hd;obtain⟨f,_,Yb,_,hs,hbf,_,_,hzl,zv,hzv,uO⟩:=Bs hΘ hz;have hzr:Cj (DA U0 ν (lv hp) w) z.zero zv:=NL uO;have h4 : ∀u∈zv,u.oneCell'=true:=λu hu=>by
                      obtain⟨c,_,hr⟩:=hzr.mem u hu;exact hr.one I.qP
                     obtain⟨inner,g1,g2,g3,g4⟩:=AE8 I hg (val_one (hx▸I.Aa x));obtain⟨A,cp,news,n1,n2,n3,n4,n5,n6⟩:=AH1 I hr (val_one (hy▸I.Aa y));have hbase:bs w0 lq<=w.heap.size:=AKS I.fr.size;have ALy:=hby;have V9:=Gr ty;have AQP:List.length xs+List.length ys<=maxLen:=by
                      clear ALy;have:List.length xs+List.length ys<=(List.length xs+List.length ys)*z.bytes:=AVk _ (Nat.pos_of_ne_zero hb0);unfold maxLen;omega
                     have hrun : ∃v' w',(Builtin.append_ #[t,t] o.type #[a.eval x,a.eval y]).run P w= .ok v' w'/\w'.ownsRow (bs w0 lq) e (kd ty).sz v' (List.length xs+List.length ys) (inner++news)/\w.grownBy w' (a.eval x).ownBlock/\(v'.ownBlock=(a.eval x).ownBlock\/v'.ownBlock=some w.heap.size):=by
                      have vP:news.length=List.length ys*ty.size:=n3.1;cases A with
                      | none =>
                        obtain rfl:=n5 rfl;have hnn:news= []:=AU0 (by rw[vP];simp);subst hnn;refine⟨a.eval x,w, ?_,by simpa using g1,World.grownBy.refl w _, .inl rfl⟩;rw[n1];rcases g1.2 with⟨q1,q2⟩ | ⟨g,cap,cur,q1,_,_,hnc,_⟩
                        · rw[q1];simp[Builtin.append_,run_underlying hd,sizeOf,typeInfo,Yb,Builtin.lenOf,Builtin.firstCells]
                        · rw[q1];simp[Builtin.append_,run_underlying hd,sizeOf,typeInfo,Yb,Builtin.lenOf,Builtin.firstCells,hnc,storeCells]
                      | some ad =>
                        have hone : ∀u∈news,u.oneCell'=true:=by
                         intro u hu;obtain⟨q,hq,rfl⟩:=AWu.1 hu;have hpos:=size_pos ty;have hql:q/ty.size<List.length ys:=by
                          rw[AWm hpos,<-vP];exact hq
                         have hc:=n3.2 (q/ty.size) _ (AUT hql);refine(kd ty).IW hc.K _ ?_;rw[AWn];refine⟨q%ty.size, ?_⟩;rw[AUf,if_pos (Nat.mod_lt _ hpos),AUh,AV4,AXX,AUT hq]
                        obtain⟨v',w',r1,r2,r3,_,r4⟩:=run_append_own_at (P:=P) w (bs w0 lq) t o.type e f (Qm zv) (kd ty).sz z.bytes hd Yb hzv (by rw[hs,hsz,V9]) hbf (by rw[G1 h4,V9];simp[<-hsz,<-hzl,hzr.len]) (by rw[V9];exact size_pos ty) (a.eval x) (List.length xs) inner g1 ad (List.length ys) cp news (by rw[V9];exact vP) (n4 ad rfl) hone AQP ALy hbase;rw[n1];exact⟨v',w',r1,r2,r3,r4⟩
                     obtain⟨v',w',r1,r2,r3,r4⟩:=hrun;refine⟨_,_,h, ?_⟩;intro hh next Q hn
                     have he:(execOp a.eval o).run P w= .ok (.value v') w':=by
                      simp only[execOp,hop,resolve];simp[invoke,builtin,r1]
                     unfold Oper.wp;rw[he];rw[hq] at hh hn;obtain⟨hgq,hb,_⟩:=Qs hh;show next (a.put o.dst _) _
                     rw[hq];refine hn (grown ν src q v') v' w' (I.grow hU g3 hgq hb r3 ?_ r4 (λm hL=> ?_) _)
                     · rcases r2.2 with⟨z,_⟩ | ⟨_,_,_,z,_⟩<;>rw[z]<;>rfl
                     · have hνq:grown ν src q v' q=v':=Br
                       refine⟨⟨⟨inner++news,by rw[hνq,AUR];exact r2, ?_⟩,λk hk=> ?_⟩,FJ (c:= .own q) ⟨?_, ?_⟩⟩
                       · have:=AE9 (by rw[V9] at g2;exact g2) n3
                         rw[V9];exact this.Ig λ_ _ z=>z.move m
                       · rw[hνq] at hk
                         have hk:v'.ownBlock=some k:=by
                          rcases r2.2 with⟨z,_⟩ | ⟨_,_,_,z,_⟩<;>rw[z] at hk ⊢ <;>exact hk
                         rcases r4 with z | z
                         · exact g4 k (z.symm.trans hk)
                         · rw[z] at hk;injection hk with hk;exact Mj.new (hk▸I.fr.size)
                       · exact⟨_,AU7 (by
                          have:=(AUI.1 hgq).1;have hlen : ∀(l:List (Nat × AB)),(Dx l hp).length=hp.length:=by
                           intro l;induction l with
                           | nil=>rfl
                           | cons p l ih=>simp[Dx,ih]
                          rw[hlen];exact this),hb⟩
                       · rw[hνq]
                         rcases r2.2 with⟨z,_⟩ | ⟨_,_,_,z,_⟩<;>rw[z]<;>rfl
                 · cases h
               · cases h
             · cases h
           · cases h
         · cases h
       · cases h
     · cases h
   · cases h
 · cases h
end
end
section
section
variable {P:Program} {Θ:Lz} {S:FuncId->Option FE} {k:Nat} {o:Oper} {U0:Nat->Prop} {ν:Nat->Value} {tm:List AV} {hp:List AB} {w0:St} {w:World} {a:Act} {R:Type} {K:AV->HC->Tree R} {r:R}
theorem AB1 (I:Inv U0 ν tm hp w0 a w) {x:Option Operand} {l:Option Int} (h:fu tm x=some l):(x=none/\l=none)\/ ∃k n,l=some n/\x.map a.eval=some (.int k n):=by
 unfold fu at h;split at h
 · injection h with h;exact .inl ⟨rfl,h.symm⟩
 · rename_i o'
   split at h
   · rename_i kk n hx
     injection h with h;have hv:=G0 (hx▸I.Aa o');exact .inr ⟨kk,n,h.symm,by simp[hv]⟩
   · cases h
theorem jW (I:Inv U0 ν tm hp w0 a w) {b:Bool} {len cap:Nat} {lo hi:Option Operand} {l h:Option Int} (hl:fu tm lo=some l) (hh:fu tm hi=some h) (h0:0<=l.getD 0) (h1:l.getD 0<=h.getD len) (h2:h.getD len<=cap) :
 (Instr.sliceBounds b len cap (lo.map a.eval) (hi.map a.eval) none).run P w= .ok ((l.getD 0).toNat,(h.getD len).toNat,cap) w:=by
 rcases AB1 I hl with⟨e1,e2⟩ | ⟨k1,n1,e1,e2⟩<;>rcases AB1 I hh with⟨f1,f2⟩ | ⟨k2,n2,f1,f2⟩
 · subst e1 e2 f1 f2
   simp[Instr.sliceBounds]
 · subst e1 e2 f1
   simp only[AWQ,Option.getD_none] at h0 h1 h2 ⊢;simp[Instr.sliceBounds,f2,run_sliceBound w k2 n2 cap _ h1 h2]
 · subst e1 f1 f2
   simp only[AWQ,Option.getD_none] at h0 h1 h2 ⊢;simp[Instr.sliceBounds,e2,run_sliceBound w k1 n1 len _ h0 h1]
 · subst e1 f1
   simp only[AWQ] at h0 h1 h2 ⊢;have hb:n1<=((n2.toNat:Nat):Int):=(by omega);simp[Instr.sliceBounds,e2,f2,run_sliceBound w k2 n2 cap _ (by omega) h2,run_sliceBound w k1 n1 n2.toNat _ h0 hb]
theorem AKi {U:Nat->Prop} {e:TypeId} {t:Ty} {xs:List (T t)} {A:Option Addr} {cp l h:Nat} (hr:Rd U w (.row e t) xs [.slice A (List.length xs) cp]) (hl:l<=h) (hh:h<=List.length xs) :
 Rd U w (.row e t) ((xs.take h).drop l) [.slice (if cp=l then A else A.map (·.add (l*t.size))) (h-l) (cp-l)]:=by
 obtain⟨A',cp',h1,h2,h3,h4⟩:=hr;have h1:=(AVY h1).1;injection h1 with e1 e2 e3;subst e1 e3;have hlen:((xs.take h).drop l).length=h-l:=by rw[AUn,AUJ];omega
 refine⟨_,cp-l,by rw[hlen], ?_, ?_,λhn=> ?_⟩
 · show((xs.take h).drop l).length<=_
   omega
 · show((xs.take h).drop l).length<=_
   have:List.length xs<=9223372036854775807:=h3;omega
 · have hn:0<((xs.take h).drop l).length:=hn
   obtain⟨ad,rfl,h5⟩:=h4 (show 0<List.length xs by omega);have:List.length xs<=cp:=h2;refine⟨ad.add (l*t.size),by rw[if_neg (by omega)];rfl,λj p hj=> ?_⟩;have hj:((xs.take h).drop l)[j]? =some p:=hj;rw[AUh,AUf] at hj;split at hj
   · obtain⟨c',q1,q2⟩:=h5 (l+j) p hj
     refine⟨c',q1,λi u hu=> ?_⟩;have:=q2 i u hu;rw[add_add,show l*t.size+(j*t.size+i)=(l+j)*t.size+i by rw[AWT,AVq]];exact this
   · cases hj
theorem ok_slice (hΘ:Θ.ok P=true) (I:Inv U0 ν tm hp w0 a w) (hU : ∀k,U0 k->k<w0.heap.size) {t:TypeId} {x:Operand} {lo hi mx:Option Operand} (ho:o.op= .slice t x lo hi mx) (h:(stepT Θ S k tm hp o.dst (.slice t x lo hi mx) K).run=some r):DE P Θ S k o U0 ν tm hp w0 a w K r:=by
 simp only[stepT] at h;split at h
 · rename_i i hti
   split at h
   · rename_i e c l h' hk hx hl hh
     split at h
     · rename_i z hz
       split at h
       · rename_i ty hty
         split at h
         · rename_i hsz
           split at h
           · rename_i xs hxs
             simp only[AEg] at h;obtain⟨h0,h⟩:=Tree.need h;obtain⟨h1,h⟩:=Tree.need h;obtain⟨h2,h⟩:=Tree.need h;obtain⟨_,d,_,hd,_,_,hB,_⟩:=Bs hΘ hti;rw[hk] at hB;rw[LX hB] at hd;obtain⟨f,_,Yb,_,hs,_⟩:=Bs hΘ hz;have hfz:=Mm (hp:=hp) [c];obtain⟨ν',I'⟩:=I.KD hU hfz;have hv:=val_one (hx▸I'.Aa x);have htt:Fk hp (.row e ty) [c]=some (xs,[]):=by
              unfold YN at hxs;split at hxs
              · rename_i ys hy;injection hxs with hxs;subst hxs;exact hy
              · cases hxs
             obtain⟨v1,v2,e1,e2,e3⟩:=vU I hU hfz (λj e t xs hj hb=>Pj hj hb) htt I' (vs:= [a.eval x]) ⟨hv,trivial⟩;have:v2= []:=by
              cases v2 with
              | nil=>rfl
              | cons _ _=>exact e3.elim
             subst this;rw[AVW] at e1;subst e1;obtain⟨A,cp,q1,q2,q3⟩:=e2;have q1:=(AVY q1).1;have hrd:Rd (Un U0 ν' (lv (Dx (Mv hp [c]) hp))) w (.row e ty) xs [.slice A (List.length xs) cp]:=⟨A,cp,rfl,q2,q3⟩;have hcp:h'.getD ((xs:List (T ty)).length:Int)<=(cp:Int):=AV5 h2 (by
              have:List.length xs<=cp:=q2
              exact_mod_cast this)
             have hb:=jW (P:=P) I' (b:=true) hl hh h0 h1 hcp;have hel:P.elem t=e:=(by simp[Program.elem,hd]);have hu:P.underlying t=some (.slice (P.elem t)):=(by rw[hel];exact hd);have hrun:(execOp a.eval o).run P w= .ok (.value (sliced A (l.getD 0).toNat (h'.getD ((xs:List (T ty)).length:Int)).toNat cp ty.size)) w:=by
              have hs1:(sizeOf e).run P w= .ok ty.size w:=(by simp[sizeOf,typeInfo,Yb,hs,hsz]);simp only[execOp,ho,q1,Option.map_none];simp[run_sliceAt_slice w t _ _ _ _ hu,run_slice_any w t A (List.length xs) cp hu,hb,hel,hs1,Result.andThen]
             refine⟨_,_,h, ?_⟩;intro _ next Q hn
             unfold Oper.wp;rw[hrun];exact hn ν' _ w (I'.TP o.dst (FJ (c:= .ro (.row e ty) _) ⟨rfl,AKi hrd (by omega) (by
              have:=h2;omega)⟩))
           · cases h
         · cases h
       · cases h
     · cases h
   · rename_i s l h' hk hx hl hh
     simp only[AEg] at h;obtain⟨h0,h⟩:=Tree.need h;obtain⟨h1,h⟩:=Tree.need h;obtain⟨h2,h⟩:=Tree.need h;obtain⟨_,d,_,hd,_,_,hB,_⟩:=Bs hΘ hti;rw[hk] at hB;rw[YP hB] at hd;have hv:=jA (hx▸I.Aa x);have hb:=jW (P:=P) I (b:=false) hl hh h0 h1 h2;refine⟨_,_,h,Ao I (v:= .string ((s:ByteArray).extract (l.getD 0).toNat (h'.getD ((s:ByteArray).size:Int)).toNat)) ?_ (FJ (c:= .ro .str _) ⟨rfl,rfl⟩)⟩;simp only[execOp,ho,hv,Option.map_none];simp[run_sliceAt_string w t _ _ _ _ hd,Instr.slice,run_underlying hd,hb]
   · cases h
 · cases h
end
end
section
section
variable {U0:Nat->Prop} {ν:Nat->Value} {tm:List AV} {hp:List AB} {w0:St} {w:World} {a:Act}
theorem LZ : ∀ {cs:List AC},LN cs=true-> ∀ {j:Nat},AC.own j ∉ cs
 | [],_,_=>by simp
 | c::cs,h,j=>λhj=>by
   cases c with
   | own i=>simp[LN] at h
   | _ =>
     rcases AUH.1 hj with e | hj
     · cases e
     · exact LZ (cs:=cs) (by simpa[LN] using h) hj
theorem jX : ∀ {cs:List AC},(∀j,AC.own j ∉ cs)->LN cs=true
 | [],_=>rfl
 | c::cs,h=>by
   cases c with
   | own i=>exact absurd AUC (h i)
   | _=>simpa[LN] using jX (cs:=cs) λj hj=>h j (AUB _ hj)
theorem AAG {cs:List AC} {n:Nat} (h:LN cs=true):LN (cs.take n)=true:=jX λj hj=>LZ h (AWJ hj)
theorem AAH {cs:List AC} {n:Nat} (h:LN cs=true):LN (cs.drop n)=true:=jX λj hj=>LZ h (AWK hj)
theorem L3 : ∀ {t:Ty} {cs rest:List AC} {x:T t},Fk hp t cs=some (x,rest)->rest=cs.drop t.size/\t.size<=cs.length
 | .cons p q,cs,rest,x,h=>by
   simp only[Fk] at h;split at h
   · rename_i x1 cs1 h1
     split at h
     · rename_i x2 cs2 h2
       injection h with h;injection h with hx hc;subst hc;obtain⟨e1,e2⟩:=L3 h1;obtain⟨e3,e4⟩:=L3 h2;subst e1;rw[AUn] at e4;refine⟨by rw[e3,AWk];rfl,by show p.size+q.size<=_;omega⟩
     · cases h
   · cases h
 | .int _,cs,rest,x,h=>by
   match cs with
   | []=>simp[Fk] at h
   | c::cs =>
     cases c<;>simp only[Fk] at h<;>try (simp at h;done)
     split at h
     · rename_i e;subst e;injection h with h;injection h with _ h;subst h;exact⟨rfl,by show 1<=_;simp⟩
     · cases h
 | .bool,cs,rest,x,h=>by
   match cs with
   | []=>simp[Fk] at h
   | c::cs =>
     cases c<;>simp only[Fk] at h<;>try (simp at h;done)
     split at h
     · rename_i e;subst e;injection h with h;injection h with _ h;subst h;exact⟨rfl,by show 1<=_;simp⟩
     · cases h
 | .str,cs,rest,x,h=>by
   match cs with
   | []=>simp[Fk] at h
   | c::cs =>
     cases c<;>simp only[Fk] at h<;>try (simp at h;done)
     split at h
     · rename_i e;subst e;injection h with h;injection h with _ h;subst h;exact⟨rfl,by show 1<=_;simp⟩
     · cases h
 | .row _ _,cs,rest,x,h=>by
   match cs with
   | []=>simp[Fk] at h
   | c::cs =>
     cases c with
     | ro t y =>
       simp only[Fk] at h;split at h
       · rename_i e;subst e;injection h with h;injection h with _ h;subst h;exact⟨rfl,by show 1<=_;simp⟩
       · cases h
     | CA=>simp only[Fk] at h;injection h with h;injection h with _ h;subst h;exact⟨rfl,by show 1<=_;simp⟩
     | own j =>
       simp only[Fk] at h;split at h
       · injection h with h;injection h with _ h;subst h;exact⟨rfl,by show 1<=_;simp⟩
       · cases h
     | _=>simp[Fk] at h
theorem jY : ∀ {t:Ty} {cs rest:List AC} {x:T t} {n:Nat},Fk hp t cs=some (x,rest)->t.size<=n->Fk hp t (cs.take n)=some (x,rest.take (n-t.size))
 | .cons p q,cs,rest,x,n,h,hn=>by
   simp only[Fk] at h;split at h
   · rename_i x1 cs1 h1
     split at h
     · rename_i x2 cs2 h2
       injection h with h;injection h with hx hc;subst hx hc;have hn:p.size+q.size<=n:=hn;simp only[Fk,jY h1 (show p.size<=n by omega),jY h2 (show q.size<=n-p.size by omega)];rw[Nat.sub_sub];rfl
     · cases h
   · cases h
 | .int kk,cs,rest,x,n,h,hn=>by
   match cs with
   | []=>simp[Fk] at h
   | c::cs =>
     obtain⟨m,rfl⟩ : ∃m,n=m+1:=⟨n-1,by have:1<=n:=hn;omega⟩;rw[AWW,show m+1-Ty.size (.int kk)=m from AWB ..];cases c<;>simp only[Fk] at h ⊢ <;>try (simp at h;done)
     split at h
     · rename_i e
       subst e;injection h with h;injection h with h1 h2;subst h2;subst h1;simp
     · cases h
 | .bool,cs,rest,x,n,h,hn=>by
   match cs with
   | []=>simp[Fk] at h
   | c::cs =>
     obtain⟨m,rfl⟩ : ∃m,n=m+1:=⟨n-1,by have:1<=n:=hn;omega⟩;rw[AWW,show m+1-Ty.size .bool=m from AWB ..];cases c<;>simp only[Fk] at h ⊢ <;>try (simp at h;done)
     split at h
     · rename_i e
       subst e;injection h with h;injection h with h1 h2;subst h2;subst h1;simp
     · cases h
 | .str,cs,rest,x,n,h,hn=>by
   match cs with
   | []=>simp[Fk] at h
   | c::cs =>
     obtain⟨m,rfl⟩ : ∃m,n=m+1:=⟨n-1,by have:1<=n:=hn;omega⟩;rw[AWW,show m+1-Ty.size .str=m from AWB ..];cases c<;>simp only[Fk] at h ⊢ <;>try (simp at h;done)
     split at h
     · rename_i e
       subst e;injection h with h;injection h with h1 h2;subst h2;subst h1;simp
     · cases h
 | .row e t,cs,rest,x,n,h,hn=>by
   match cs with
   | []=>simp[Fk] at h
   | c::cs =>
     obtain⟨m,rfl⟩ : ∃m,n=m+1:=⟨n-1,by have:1<=n:=hn;omega⟩;rw[AWW,show m+1-Ty.size (.row e t)=m from AWB ..];cases c with
     | ro t' y =>
       simp only[Fk] at h ⊢;split at h
       · rename_i e
         subst e;injection h with h;injection h with h1 h2;subst h2;subst h1;simp
       · cases h
     | CA=>simp only[Fk] at h ⊢;injection h with h;injection h with h1 h2;subst h2;subst h1;rfl
     | own j =>
       simp only[Fk] at h ⊢;split at h
       · rename_i xs e
         injection h with h;injection h with h1 h2;subst h2;subst h1;simp[e]
       · cases h
     | _=>simp[Fk] at h
theorem jJ (I:Inv U0 ν tm hp w0 a w) {U:Nat->Prop} (hU : ∀k,k<w.heap.size->U k->Un U0 ν (lv hp) k) {t:Ty} {cs rest:List AC} {x:T t} {vs:List Value} (hm:C6 U ν hp (cs.take t.size)) (h:Fk hp t cs=some (x,rest)) (hr:Cj (DA U0 ν (lv hp) w) cs vs):Rd U w t x (vs.take t.size)/\Cj (DA U0 ν (lv hp) w) rest (vs.drop t.size):=by
 have h1:=jY h (AUN _);rw[AXC,AWP] at h1;obtain⟨v1,v2,e1,e2,e3,_⟩:=NM I hU hm h1 (hr.take t.size);have:v2= []:=by
  cases v2 with
  | nil=>rfl
  | cons _ _=>exact e3.elim
 subst this;rw[AVW] at e1;refine⟨e1▸e2, ?_⟩;rw[(L3 h).1];exact hr.drop t.size
theorem az {hp CY:List AB} : ∀ {t:Ty} {cs:List AC},LN (cs.take t.size)=true->Fk hp t cs=Fk CY t cs
 | .cons p q,cs,h=>by
   have h1:LN (cs.take p.size)=true:=by
    have:cs.take p.size=(cs.take (p.size+q.size)).take p.size:=(by rw[AWM,AUa (by omega)]);rw[this];exact AAG h
   simp only[Fk,az (hp:=hp) (CY:=CY) h1];cases hx:Fk CY p cs with
   | none=>rfl
   | some y =>
     obtain⟨x,cs'⟩:=y;obtain⟨rfl,_⟩:=L3 hx;have h2:LN ((cs.drop p.size).take q.size)=true:=by
      have:(cs.drop p.size).take q.size=(cs.take (p.size+q.size)).drop p.size:=(by rw[AWi];congr 1;omega);rw[this];exact AAH h
     simp only[az (hp:=hp) (CY:=CY) h2]
 | .int kk,cs,h=>by cases cs with
   | nil=>rfl
   | cons c cs=>cases c<;>rfl
 | .bool,cs,h=>by cases cs with
   | nil=>rfl
   | cons c cs=>cases c<;>rfl
 | .str,cs,h=>by cases cs with
   | nil=>rfl
   | cons c cs=>cases c<;>rfl
 | .row e t,cs,h=>by cases cs with
   | nil=>rfl
   | cons c cs=>cases c<;>first | rfl | (simp[Ty.size,LN] at h)
end
section
variable {P:Program} {Θ:Lz} {S:FuncId->Option FE} {k:Nat} {o:Oper} {U0:Nat->Prop} {ν:Nat->Value} {tm:List AV} {hp:List AB} {w0:St} {w w':World} {a:Act} {R:Type} {K:AV->HC->Tree R} {r:R}
theorem TZ {e:TypeId} {sz n b:Nat} {v:Value} {xs:List Value} (h:w.ownsRow b e sz v n xs):w.ownsRow 0 e sz v n xs:=by
 refine⟨h.1, ?_⟩;rcases h.2 with q | ⟨g,cap,cur,q1,q2,q3⟩
 · exact .inl q
 · exact .inr ⟨g,cap,cur,q1,AWf _,q3⟩
theorem jQ {e:TypeId} {sz n b:Nat} {v:Value} {xs:List Value} (h:w.ownsRow 0 e sz v n xs) (hb : ∀k,DO v=some k->b<=k):w.ownsRow b e sz v n xs:=by
 refine⟨h.1, ?_⟩;rcases h.2 with q | ⟨g,cap,cur,q1,q2,q3⟩
 · exact .inl q
 · exact .inr ⟨g,cap,cur,q1,hb g (by rw[q1];rfl),q3⟩
theorem JS {e:TypeId} {sz n b:Nat} {v:Value} {xs:List Value} (h:w.ownsRow b e sz v n xs):ref v=v/\ ∃A c,v= .slice A n c:=by
 rcases h.2 with⟨q,z⟩ | ⟨g,cap,cur,q1,_⟩
 · rw[q,z];exact⟨rfl,_,_,rfl⟩
 · rw[q1];exact⟨rfl,_,_,rfl⟩
def qu (ν:Nat->Value) (l:List Nat):List Nat:=l.flatMap λj=>(DO (ν j)).toList
theorem NN {l:List Nat} {k:Nat} :k∈qu ν l↔ ∃j∈l,DO (ν j)=some k:=by
 unfold qu;simp[AVm]
theorem XO : ∀ {l:List Nat},iy l=true->l.Nodup
 | [],_=>AXI
 | a::l,h=>by
   simp only[iy,AUO,AVb,AVl,decide_eq_false_iff_not] at h;exact AVL.2 ⟨h.1,XO h.2⟩
theorem ay (I:Inv U0 ν tm hp w0 a w) : ∀ {l:List Nat},l.Nodup->(∀j∈l,lv hp j)->(qu ν l).Nodup
 | [],_,_=>AXI
 | j::l,h,hl=>by
   obtain⟨h1,h2⟩:=AVL.1 h;have ih:=ay I h2 λi hi=>hl i (AUB _ hi)
   show((DO (ν j)).toList++qu ν l).Nodup;cases hb:DO (ν j) with
   | none=>simpa using ih
   | some k =>
     refine AVL.2 ⟨λhk=> ?_,ih⟩;obtain⟨i,hi,hbi⟩:=NN.1 hk;exact I.zI j i (λe=>h1 (e▸hi)) (hl j AUC) (hl i (AUB _ hi)) k hb hbi
theorem rB (I:Inv U0 ν tm hp w0 a w) : ∀ {fs:List FK} {cs:List AC} {x:FT fs} {us:List Value},LO hp fs cs=some x->Cj (DA U0 ν (lv hp) w) cs us->qt (Un U0 ν (lv hp)) w fs x us (qu ν (Ih fs cs))/\ ∀j∈Ih fs cs,lv hp j
 | [],[],x,us,h,hr=>by
   have:us= []:=by
    cases us with
    | nil=>rfl
    | cons _ _=>exact hr.elim
   exact⟨⟨this,rfl⟩,λj hj=>by simp[Ih] at hj⟩
 | [],_::_,x,us,h,hr=>by simp[LO] at h
 | .ty t::l,cs,x,us,h,hr=>by
   simp only[LO] at h;split at h
   · rename_i hn
     split at h
     · rename_i y cs' hy
       split at h
       · rename_i ys hys
         injection h with h;subst h;obtain⟨rfl,_⟩:=L3 hy;obtain⟨q1,q2⟩:=jJ I (U:=Un U0 ν (lv hp)) (λ_ _ h=>h) (λj e t' xs hj hb=>absurd hj (LZ hn)) hy hr;obtain⟨z1,z2⟩:=rB I hys q2;exact⟨⟨_,_,(AVi t.size us).symm,q1,z1⟩,z2⟩
       · cases h
     · cases h
   · cases h
 | .row kp e t::l,[],x,us,h,hr=>by cases kp<;>simp[LO] at h
 | .row kp e t::l,c::cs,x,[],h,hr=>hr.elim
 | .row kp e t::l,c::cs,x,u::us,h,hr=>by
   have own : ∀ {j:Nat} {lq:Lq} {e':TypeId} {t':Ty} {xs:List (T t')},c= .own j->hp[j]? =some (.row lq e' t' xs)->(if h:e'=e/\t'=t then(match LO hp l cs with
    | some y=>h.2▸some (xs,y)
    | none=>none) else none)=some x->qt (Un U0 ν (lv hp)) w (.row kp e t::l) x (u::us) (qu ν (j::Ih l cs))/\ ∀i∈j::Ih l cs,lv hp i:=by
    clear h;intro j lq e' t' xs hc hb h;subst hc;split at h
    · rename_i q
      obtain⟨rfl,rfl⟩:=q;split at h
      · rename_i ys hys
        injection h with h;subst h;obtain⟨z1,z2⟩:=rB I hys hr.2;obtain⟨⟨inner,y1,y2⟩,_⟩:=I.mem j _ hb rfl;have hu:u=ν j:=hr.1.2.trans (JS y1).1;subst hu;refine⟨⟨inner,_,TZ y1,y2,rfl,z1⟩,λi hi=> ?_⟩;rcases AUH.1 hi with rfl | hi
        · exact⟨_,hb,rfl⟩
        · exact z2 i hi
      · cases h
    · cases h
   cases kp with
   | true =>
     cases c with
     | own j =>
       simp only[LO] at h;split at h
       · rename_i lq e' t' xs hb
         exact own rfl hb h
       · cases h
     | _=>simp[LO] at h
   | false =>
     cases c with
     | own j =>
       simp only[LO] at h;split at h
       · rename_i e' t' xs hb
         exact own rfl hb h
       · rename_i e' t' xs hb
         exact own rfl hb h
       · cases h
     | CA =>
       simp only[LO] at h;split at h
       · rename_i ys hys
         injection h with h;subst h;obtain⟨z1,z2⟩:=rB I hys hr.2;have hu:u= .slice none 0 0:=hr.1;subst hu;exact⟨⟨[],_,World.ownsRow_nil w _ _ _,B9.none _ _,rfl,z1⟩,z2⟩
       · cases h
     | _=>simp[LO] at h
def AB2 (hp:List AB) (tm:List AV):List PK->List Operand->Prop
 | .ty _::ts,o::os=>(∀j e t xs,AC.own j∈cellsOf (Aa tm o)->hp[j]? ≠some (.row .mine e t xs))/\AB2 hp tm ts os
 | _::ts,_::os=>AB2 hp tm ts os
 | _,_=>True
theorem rC (I:Inv U0 ν tm hp w0 a w) : ∀ {ps:List PK} {os:List Operand} {x:PT ps},AB2 hp tm ps os->Cm hp tm ps os=some x->AAA (Un U0 ν (lv hp)) w ps x (os.map a.eval) (qu ν (Eh hp tm ps os))/\ ∀j∈Eh hp tm ps os,lv hp j
 | [],[],x,ht,h=>⟨⟨rfl,rfl⟩,λj hj=>by simp[Eh] at hj⟩
 | [],_::_,x,ht,h=>by simp[Cm] at h
 | .ty t::ts,o::os,x,ht,h=>by
   simp only[Cm] at h;split at h
   · rename_i cs hc
     split at h
     · rename_i y hy
       split at h
       · rename_i ys hys
         injection h with h;subst h;obtain⟨vs,h1,h2⟩:=hc▸I.Aa o;obtain⟨v1,v2,rfl,q1,q2,_⟩:=NM I (U:=Un U0 ν (lv hp)) (λ_ _ h=>h) (λj e t' xs hj hb=>absurd hb (ht.1 j e t' xs (by rw[hc];exact hj))) hy h2;have:v2= []:=by
          cases v2 with
          | nil=>rfl
          | cons _ _=>exact q2.elim
         subst this;rw[AVW] at h1;obtain⟨z1,z2⟩:=rC I ht.2 hys;exact⟨⟨⟨v1,h1,q1⟩,z1⟩,z2⟩
       · cases h
     · cases h
   · cases h
 | .st e fs::ts,o::os,x,ht,h=>by
   simp only[Cm] at h;split at h
   · rename_i j hc
     split at h
     · rename_i lq e' cs hb
       split at h
       · rename_i he
         subst he;split at h
         · rename_i y hy
           split at h
           · rename_i ys hys
             injection h with h;subst h;obtain⟨hj,g,hν,hv⟩:=val_one (hc▸I.Aa o);obtain⟨g',vs,h1,h2,h3,h4,h5⟩:=I.cells hb;rw[hν] at h1;injection h1 with h1;injection h1 with h1;injection h1 with h1;subst h1;obtain⟨f1,f2⟩:=rB I hy h4;obtain⟨z1,z2⟩:=rC I (ps:=ts) ht hys;have hid:Eh hp tm (.st e' fs::ts) (o::os)=j::(Ih fs cs++Eh hp tm ts os):=(by simp only[Eh,hc,hb]);rw[hid];refine⟨⟨g,vs,_,_,hv,h3,f1, ?_,z1⟩,λi hi=> ?_⟩
             · unfold qu
               rw[AVc,AVv,hν];rfl
             · rcases AUH.1 hi with rfl | hi
               · exact⟨_,hb,rfl⟩
               · exact(AUj.1 hi).elim (f2 i) (z2 i)
           · cases h
         · cases h
       · cases h
     · cases h
   · cases h
 | .Ml e t::ts,o::os,x,ht,h=>by
   simp only[Cm] at h;split at h
   · rename_i j hc
     split at h
     · rename_i lq e' t' xs hb
       split at h
       · rename_i q
         obtain⟨rfl,rfl⟩:=q;split at h
         · rename_i ys hys
           injection h with h;subst h;obtain⟨hj,hv⟩:=val_one (hc▸I.Aa o);obtain⟨⟨inner,y1,y2⟩,_⟩:=I.mem j _ hb rfl;have hv:a.eval o=ν j:=hv.trans (JS y1).1;obtain⟨z1,z2⟩:=rC I (ps:=ts) ht hys;have hid:Eh hp tm (.Ml e' t'::ts) (o::os)=j::Eh hp tm ts os:=(by simp only[Eh,hc]);rw[hid];refine⟨⟨inner,_,by rw[hv];exact TZ y1,y2,by rw[hv];rfl,z1⟩,λi hi=> ?_⟩;rcases AUH.1 hi with rfl | hi
           · exact⟨_,hb,rfl⟩
           · exact z2 i hi
         · cases h
       · cases h
     · cases h
   · cases h
 | .ty _::_,[],x,ht,h=>by simp[Cm] at h
 | .st _ _::_,[],x,ht,h=>by simp[Cm] at h
 | .Ml _ _::_,[],x,ht,h=>by simp[Cm] at h
def Td (ν:Nat->Value):List FK->List AC->List Value->Nat->List (Nat × Value)
 | .ty t::l,cs,us,b=>Td ν l (cs.drop t.size) (us.drop t.size) b
 | .row true _ _::l, .own j::cs,_::us,b=>(j,ν j)::Td ν l cs us b
 | .row false _ _::l, .own j::cs,u::us,b=>(b,u)::(j, .tuple #[ν j])::Td ν l cs us (b+1)
 | .row false _ _::l,_::cs,u::us,b=>(b,u)::Td ν l cs us (b+1)
 | _,_,_,_=> []
def Kp1 (ν:Nat->Value) (p:Nat × Value):Prop:=p.2=ν p.1\/ ∃a n c,ν p.1= .slice a n c/\p.2= .tuple #[ν p.1]
structure Aft (hp:List AB) (ν:Nat->Value) (N:List (Nat × Value)) (E:List (Nat × AB)) (bl ids news:List Nat):Prop where
 names:E.map (·.1)=N.map (·.1)
 rD:bl=N.flatMap λp=>(DO p.2).toList
 mem : ∀i,i∈N.map (·.1)↔i∈ids\/i∈news
 nodup:ids.Nodup->news.Nodup->(∀i∈news,i ∉ ids)->(N.map (·.1)).Nodup
 live : ∀p∈E,FI p.2=false
 kp : ∀p∈N,p.1∈news\/Kp1 ν p
 fx : ∀i∈ids,∀b0,hp[i]? =some b0->TO b0=true->(i,ν i)∈N/\ ∃b',(i,b')∈E/\TO b'=true
theorem Ye (I:Inv U0 ν tm hp w0 a w) {U:Nat->Prop} {rq:Lq} : ∀ {fs:List FK} {cs:List AC} {x:FT fs} {y:FT fs} {us us':List Value} {bl:List Nat} (b:Nat),LO hp fs cs=some x->Cj (DA U0 ν (lv hp) w) cs us->qt U w' fs y us' bl->Sk fs us us'->(∀k∈bl,Mj w0 rq k) ->
 Aft hp ν (Td ν fs cs us' b) (ED hp rq fs y cs b).2 bl (Ih fs cs) ((List.range (F0 fs)).map (b+ ·)) /\
 ∀(ν2:Nat->Value) (L2:Nat->Prop),(∀p∈Td ν fs cs us' b,ν2 p.1=p.2/\L2 p.1)->Move U w' w' (Un U0 ν2 L2)->Cj (DA U0 ν2 L2 w') (ED hp rq fs y cs b).1 us'/\ ∀p∈(ED hp rq fs y cs b).2,V2 U0 ν2 L2 w0 w' p.1 p.2
 | [],[],x,y,us,us',bl,b,h,hr,hf,hk,hm=>by
   obtain⟨rfl,rfl⟩:=hf;exact⟨⟨rfl,rfl,λi=>by simp[Td,Ih,F0],λ_ _ _=>AXI,λp hp=>by simp[ED] at hp,λp hp=>by simp[Td] at hp,λi hi=>by simp[Ih] at hi⟩,λν2 L2 _ _=>⟨trivial,λp hp=>by simp[ED] at hp⟩⟩
 | [],_::_,x,y,us,us',bl,b,h,hr,hf,hk,hm=>by simp[LO] at h
 | .ty t::l,cs,x,y,us,us',bl,b,h,hr,hf,hk,hm=>by
   simp only[LO] at h;split at h
   · rename_i hn
     split at h
     · rename_i x1 cs' hy
       split at h
       · rename_i ys hys
         obtain⟨rfl,_⟩:=L3 hy;obtain⟨v1,v2,rfl,q1,q2⟩:=hf;have hl:v1.length=t.size:=(by rw[(kd t).Ei q1.K,Gr]);have e2:(v1++v2).drop t.size=v2:=(by rw[<-hl,AXE]);have hk':Sk l (us.drop t.size) v2:=by
          have:=hk;simp only[Sk] at this;rw[e2] at this;exact this
         obtain⟨A,B⟩:=Ye I (rq:=rq) b hys (hr.drop t.size) q2 hk' hm;have e3:Td ν (.ty t::l) cs (v1++v2) b=Td ν l (cs.drop t.size) v2 b:=(by simp only[Td,e2]);refine⟨⟨by rw[e3];exact A.names,by rw[e3];exact A.rD,by rw[e3];exact A.mem,by rw[e3];exact A.nodup,A.live,by rw[e3];exact A.kp,by rw[e3];exact A.fx⟩,λν2 L2 h1 h2=> ?_⟩;rw[e3] at h1;obtain⟨z1,z2⟩:=B ν2 L2 h1 h2;exact⟨(Ii t y.1 (q1.move h2)).app z1,z2⟩
       · cases h
     · cases h
   · cases h
 | .row kp e t::l,[],x,y,us,us',bl,b,h,hr,hf,hk,hm=>by cases kp<;>simp[LO] at h
 | .row kp e t::l,c::cs,x,y,[],us',bl,b,h,hr,hf,hk,hm=>hr.elim
 | .row kp e t::l,c::cs,x,y,u::us,[],bl,b,h,hr,hf,hk,hm=>hf.elim
 | .row true e t::l,c::cs,x,y,u::us,v::us',bl,b,h,hr,hf,hk,hm=>by
   cases c with
   | own j =>
     simp only[LO] at h;split at h
     · rename_i lq e' t' xs hb
       split at h
       · rename_i q
         obtain⟨rfl,rfl⟩:=q;split at h
         · rename_i ys hys
           obtain⟨inner,b2,f1,f2,rfl,f3⟩:=hf;obtain⟨rfl,hk⟩:v=u/\Sk l us us':=hk;obtain⟨A,B⟩:=Ye I (rq:=rq) b hys hr.2 f3 hk (λk hk=>hm k (AUG _ hk));obtain⟨⟨AFA,y1,y2⟩,y3⟩:=I.mem j _ hb rfl;have hu:v=ν j:=hr.1.2.trans (JS y1).1;have e3:(ED hp rq (.row true e' t'::l) y (.own j::cs) b).2=(j, .row lq e' t' y.1)::(ED hp rq l y.2 cs b).2:=(by simp only[ED,hb]);rw[e3];refine⟨⟨?_, ?_,λi=> ?_,λn1 n2 n3=> ?_,λp hp=> ?_,λp hp=> ?_,λi hi b0 z1 z2=> ?_⟩,λν2 L2 h1 h2=> ?_⟩
           · simp only[Td,AUr,A.names]
           · simp only[Td,AVc,<-A.rD,hu]
           · simp only[Td,AUr,AUH,Ih,A.mem,F0,or_assoc]
           · simp only[Td,AUr]
             obtain⟨n1a,n1b⟩:=AVL.1 (show(j::Ih l cs).Nodup from n1);refine AVL.2 ⟨λhj=> ?_,A.nodup n1b n2 λi hi hi2=>n3 i hi (AUB _ hi2)⟩;rcases(A.mem j).1 hj with z | z
             · exact n1a z
             · exact n3 j z AUC
           · rcases AUH.1 hp with rfl | hp
             · rfl
             · exact A.live p hp
           · simp only[Td,AUH] at hp
             rcases hp with rfl | hp
             · exact .inr (.inl rfl)
             · exact A.kp p hp
           · rcases AUH.1 (show i∈j::Ih l cs from hi) with rfl | hi
             · rw[hb] at z1
               injection z1 with z1;subst z1;exact⟨by simp[Td],_,AUC,by cases lq<;>exact z2⟩
             · obtain⟨y1,b',y2,y3⟩:=A.fx i hi b0 z1 z2
               exact⟨AUB _ y1,b',AUB _ y2,y3⟩
           · have h0:=h1 (j,ν j) (by simp[Td])
             obtain⟨z1,z2⟩:=B ν2 L2 (λp hp=>h1 p (AUB _ hp)) h2;refine⟨⟨⟨h0.2,by rw[h0.1,<-hu];exact(JS f1).1.symm⟩,z1⟩,λp hp=> ?_⟩;rcases AUH.1 hp with rfl | hp
             · refine⟨⟨inner, ?_,f2.Ig λ_ _ z=>z.move h2⟩,λk hk=> ?_⟩
               · rw[h0.1,<-hu]
                 refine jQ f1 λk hk=>YK (y3 k ?_)
                 rw[<-hu];exact hk
               · have:DO (ν2 j)=some k:=hk
                 rw[h0.1] at this;exact y3 k this
             · exact z2 p hp
         · cases h
       · cases h
     · cases h
   | _=>simp[LO] at h
 | .row false e t::l,c::cs,x,y,u::us,v::us',bl,b,h,hr,hf,hk,hm=>by
   have hk:Sk l us us':=hk;obtain⟨inner,b2,f1,f2,rfl,f3⟩:=hf;have hrg:(List.range (F0 (.row false e t::l))).map (b+ ·)=b::(List.range (F0 l)).map (b+1+ ·):=by
    show(List.range (F0 l+1)).map (b+ ·)=_;rw[AXU,AUr,AXf]
    congr 1
    exact AVE λi _=>by simp only[Function.comp];omega
   have rel : ∀ {ν2:Nat->Value} {L2:Nat->Prop},ν2 b=v->Move U w' w' (Un U0 ν2 L2)->V2 U0 ν2 L2 w0 w' b (.row rq e t y.1):=λ{ν2 L2} hb h2=>by
    refine⟨⟨inner, ?_,f2.Ig λ_ _ z=>z.move h2⟩,λk hk=> ?_⟩
    · rw[hb]
      exact jQ f1 λk hk=>YK (hm k (AUK _ (by rw[hk];simp)))
    · rw[hb] at hk
      exact hm k (AUK _ (by rw[hk];simp))
   have own : ∀ {j:Nat} {lq:Lq} {e':TypeId} {t':Ty} {xs:List (T t')},c= .own j->hp[j]? =some (.row lq e' t' xs)->TO (.row lq e' t' xs)=false->(if h:e'=e/\t'=t then(match LO hp l cs with
    | some y=>h.2▸some (xs,y)
    | none=>none) else none)=some x->Aft hp ν (Td ν (.row false e t::l) (c::cs) (v::us') b) (ED hp rq (.row false e t::l) y (c::cs) b).2 ((DO v).toList++b2) (Ih (.row false e t::l) (c::cs)) ((List.range (F0 (.row false e t::l))).map (b+ ·)) /\
       ∀(ν2:Nat->Value) (L2:Nat->Prop),(∀p∈Td ν (.row false e t::l) (c::cs) (v::us') b,ν2 p.1=p.2/\L2 p.1)->Move U w' w' (Un U0 ν2 L2)->Cj (DA U0 ν2 L2 w') (ED hp rq (.row false e t::l) y (c::cs) b).1 (v::us')/\ ∀p∈(ED hp rq (.row false e t::l) y (c::cs) b).2,V2 U0 ν2 L2 w0 w' p.1 p.2:=by
    clear h;intro j lq e' t' xs hc hb hnf h;subst hc;split at h
    · rename_i q
      obtain⟨rfl,rfl⟩:=q;split at h
      · rename_i ys hys
        obtain⟨A,B⟩:=Ye I (rq:=rq) (b+1) hys hr.2 f3 hk (λk hk=>hm k (AUG _ hk));obtain⟨⟨AFA,y1,y2⟩,y3⟩:=I.mem j _ hb rfl;have nC:=(JS y1).2;rw[hrg];refine⟨⟨?_, ?_,λi=> ?_,λn1 n2 n3=> ?_,λp hp=> ?_,λp hp=> ?_,λi hi b0 z1 z2=> ?_⟩,λν2 L2 h1 h2=> ?_⟩
        · simp only[Td,ED,AUr,A.names]
        · simp only[Td,AVc,<-A.rD]
          rfl
        · simp only[Td,AUr,AUH,Ih,A.mem]
          constructor
          · rintro(z | z | z | z)
            · exact .inr (.inl z)
            · exact .inl (.inl z)
            · exact .inl (.inr z)
            · exact .inr (.inr z)
          · rintro((z | z) | (z | z))
            · exact .inr (.inl z)
            · exact .inr (.inr (.inl z))
            · exact .inl z
            · exact .inr (.inr (.inr z))
        · obtain⟨n1a,n1b⟩:=AVL.1 (show(j::Ih l cs).Nodup from n1)
          obtain⟨n2a,n2b⟩:=AVL.1 n2;have A':=A.nodup n1b n2b λi hi hi2=>n3 i (AUB _ hi) (AUB _ hi2)
          simp only[Td,AUr];refine AVL.2 ⟨λhj=> ?_,AVL.2 ⟨λhj=> ?_,A'⟩⟩
          · rcases AUH.1 hj with z | z
            · exact n3 b AUC (z▸AUC)
            · rcases(A.mem b).1 z with z | z
              · exact n3 b AUC (AUB _ z)
              · exact n2a z
          · rcases(A.mem j).1 hj with z | z
            · exact n1a z
            · exact n3 j (AUB _ z) AUC
        · simp only[ED,AUH] at hp
          rcases hp with rfl | rfl | hp
          · rfl
          · rfl
          · exact A.live p hp
        · simp only[Td,AUH] at hp
          rcases hp with rfl | rfl | hp
          · exact .inl AUC
          · obtain⟨A',c',hs⟩:=nC
            exact .inr (.inr ⟨_,_,_,hs,rfl⟩)
          · exact(A.kp p hp).imp (AUB _) id
        · rcases AUH.1 (show i∈j::Ih l cs from hi) with rfl | hi
          · rw[hb] at z1
            injection z1 with z1;subst z1;rw[hnf] at z2;cases z2
          · obtain⟨y1,b',y2,y3⟩:=A.fx i hi b0 z1 z2
            exact⟨AUB _ (AUB _ y1),b',AUB _ (AUB _ y2),y3⟩
        · have h0:=h1 (b,v) (by simp[Td])
          have h0':=h1 (j, .tuple #[ν j]) (by simp[Td]);obtain⟨z1,z2⟩:=B ν2 L2 (λp hp=>h1 p (AUB _ (AUB _ hp))) h2;refine⟨⟨⟨h0.2,by rw[h0.1];exact(JS f1).1.symm⟩,z1⟩,λp hp=> ?_⟩;simp only[ED,AUH] at hp;rcases hp with rfl | rfl | hp
          · exact rel h0.1 h2
          · obtain⟨A',c',hs⟩:=nC
            exact⟨ν j,h0'.1,by rw[hs];rfl⟩
          · exact z2 p hp
      · cases h
    · cases h
   cases c with
   | own j =>
     have h':=h;simp only[LO] at h';split at h'
     · rename_i e' t' xs hb
       exact own rfl hb rfl h'
     · rename_i e' t' xs hb
       exact own rfl hb rfl h'
     · cases h'
   | CA =>
     simp only[LO] at h;split at h
     · rename_i ys hys
       obtain⟨A,B⟩:=Ye I (rq:=rq) (b+1) hys hr.2 f3 hk (λk hk=>hm k (AUG _ hk));rw[hrg];refine⟨⟨?_, ?_,λi=> ?_,λn1 n2 n3=> ?_,λp hp=> ?_,λp hp=> ?_,λi hi b0 z1 z2=> ?_⟩,λν2 L2 h1 h2=> ?_⟩
       · simp only[Td,ED,AUr,A.names]
       · simp only[Td,AVc,<-A.rD]
       · simp only[Td,AUr,AUH,Ih,A.mem]
         constructor
         · rintro(z | z | z)
           · exact .inr (.inl z)
           · exact .inl z
           · exact .inr (.inr z)
         · rintro(z | (z | z))
           · exact .inr (.inl z)
           · exact .inl z
           · exact .inr (.inr z)
       · obtain⟨n2a,n2b⟩:=AVL.1 n2
         have n1:(Ih l cs).Nodup:=n1;have A':=A.nodup n1 n2b λi hi hi2=>n3 i (AUB _ hi) hi2
         simp only[Td,AUr];refine AVL.2 ⟨λhj=> ?_,A'⟩;rcases(A.mem b).1 hj with z | z
         · exact n3 b AUC z
         · exact n2a z
       · simp only[ED,AUH] at hp
         rcases hp with rfl | hp
         · rfl
         · exact A.live p hp
       · simp only[Td,AUH] at hp
         rcases hp with rfl | hp
         · exact .inl AUC
         · exact(A.kp p hp).imp (AUB _) id
       · obtain⟨y1,b',y2,y3⟩:=A.fx i hi b0 z1 z2
         exact⟨AUB _ y1,b',AUB _ y2,y3⟩
       · have h0:=h1 (b,v) (by simp[Td])
         obtain⟨z1,z2⟩:=B ν2 L2 (λp hp=>h1 p (AUB _ hp)) h2;refine⟨⟨⟨h0.2,by rw[h0.1];exact(JS f1).1.symm⟩,z1⟩,λp hp=> ?_⟩;simp only[ED,AUH] at hp;rcases hp with rfl | hp
         · exact rel h0.1 h2
         · exact z2 p hp
     · cases h
   | _=>simp[LO] at h
theorem Aft.cons {N:List (Nat × Value)} {E:List (Nat × AB)} {bl ids news:List Nat} {j:Nat} {b:AB} (A:Aft hp ν N E bl ids news) (hb:FI b=false) (hf : ∀b0,hp[j]? =some b0->TO b0=true->TO b=true):Aft hp ν ((j,ν j)::N) ((j,b)::E) ((DO (ν j)).toList++bl) (j::ids) news:=by
 refine⟨by simp[A.names],by simp[<-A.rD],λi=>by simp[A.mem,or_assoc],λn1 n2 n3=> ?_,λp hp=> ?_,λp hp=> ?_,λi hi b0 z1 z2=> ?_⟩
 · obtain⟨n1a,n1b⟩:=AVL.1 n1
   rw[AUr];refine AVL.2 ⟨λhj=> ?_,A.nodup n1b n2 λi hi hi2=>n3 i hi (AUB _ hi2)⟩;rcases(A.mem j).1 hj with z | z
   · exact n1a z
   · exact n3 j z AUC
 · rcases AUH.1 hp with rfl | hp
   · exact hb
   · exact A.live p hp
 · rcases AUH.1 hp with rfl | hp
   · exact .inr (.inl rfl)
   · exact A.kp p hp
 · rcases AUH.1 hi with rfl | hi
   · exact⟨AUC,b,AUC,hf b0 z1 z2⟩
   · obtain⟨y1,b',y2,y3⟩:=A.fx i hi b0 z1 z2
     exact⟨AUB _ y1,b',AUB _ y2,y3⟩
theorem Aft.app {N N':List (Nat × Value)} {E E':List (Nat × AB)} {bl oP ids ids' news news':List Nat} (A:Aft hp ν N E bl ids news) (B:Aft hp ν N' E' oP ids' news'):Aft hp ν (N++N') (E++E') (bl++oP) (ids++ids') (news++news'):=by
 refine⟨by simp[A.names,B.names],by simp[<-A.rD,<-B.rD],λi=> ?_,λn1 n2 n3=> ?_,λp hp=> ?_,λp hp=> ?_,λi hi b0 z1 z2=> ?_⟩
 · rw[AVZ,AUj,A.mem,B.mem,AUj,AUj]
   constructor
   · rintro((z | z) | (z | z))
     · exact .inl (.inl z)
     · exact .inr (.inl z)
     · exact .inl (.inr z)
     · exact .inr (.inr z)
   · rintro((z | z) | (z | z))
     · exact .inl (.inl z)
     · exact .inr (.inl z)
     · exact .inl (.inr z)
     · exact .inr (.inr z)
 · obtain⟨a1,a2,a3⟩:=AWg.1 n1
   obtain⟨b1,b2,b3⟩:=AWg.1 n2;rw[AVZ];refine AWg.2 ⟨A.nodup a1 b1 λi hi hi2=>n3 i (AUK _ hi) (AUK _ hi2),B.nodup a2 b2 λi hi hi2=>n3 i (AUG _ hi) (AUG _ hi2),λi hi j hj=> ?_⟩;rintro rfl;rcases(A.mem i).1 hi with z | z<;>rcases(B.mem i).1 hj with z' | z'
   · exact a3 i z i z' rfl
   · exact n3 i (AUG _ z') (AUK _ z)
   · exact n3 i (AUK _ z) (AUG _ z')
   · exact b3 i z i z' rfl
 · exact(AUj.1 hp).elim (A.live p) (B.live p)
 · rcases AUj.1 hp with hp | hp
   · exact(A.kp p hp).imp (AUK _) id
   · exact(B.kp p hp).imp (AUG _) id
 · rcases AUj.1 hi with hi | hi
   · obtain⟨y1,b',y2,y3⟩:=A.fx i hi b0 z1 z2
     exact⟨AUK _ y1,b',AUK _ y2,y3⟩
   · obtain⟨y1,b',y2,y3⟩:=B.fx i hi b0 z1 z2
     exact⟨AUG _ y1,b',AUG _ y2,y3⟩
def TX (w:World) (v:Value):List Value:=match v with
 | .pointer (some ad)=>match w.heap[ad.block]? with
   | some (.cells cs _ _)=>cs.toList
   | _=> []
 | _=> []
def nuP (ν:Nat->Value) (hp:List AB) (tm:List AV) (w':World):List PK->List Operand->Nat->List (Nat × Value)
 | .ty _::ts,_::os,b=>nuP ν hp tm w' ts os b
 | .st _ fs::ts,o::os,b=>match Aa tm o with
   | .val [.ptr j 0]=>match hp[j]? with
     | some (.cells _ _ cs)=>(j,ν j)::(Td ν fs cs (TX w' (ν j)) b++nuP ν hp tm w' ts os (b+F0 fs))
     | _=> []
   | _=> []
 | .Ml _ _::ts,o::os,b=>match Aa tm o with
   | .val [.own j]=>(j,ν j)::nuP ν hp tm w' ts os b
   | _=> []
 | _,_,_=> []
theorem oO (b m n:Nat):(List.range (m+n)).map (b+ ·)=(List.range m).map (b+ ·)++(List.range n).map (b+m+ ·):=by
 rw[List.range_add,AVZ,AXf]
 congr 1
 exact AVE λi _=>by simp only[Function.comp];omega
theorem gy (I:Inv U0 ν tm hp w0 a w) {U:Nat->Prop} {rq:Lq} : ∀ {ps:List PK} {os:List Operand} {x:PT ps} {y:ET ps} {bl:List Nat} (b:Nat),Cm hp tm ps os=some x->AAB U w w' ps y (os.map a.eval) bl->(∀k∈bl,Mj w0 rq k) ->
 Aft hp ν (nuP ν hp tm w' ps os b) (F2 hp tm rq ps y os b) bl (Eh hp tm ps os) ((List.range (LW ps)).map (b+ ·)) /\
 ∀(ν2:Nat->Value) (L2:Nat->Prop),(∀p∈nuP ν hp tm w' ps os b,ν2 p.1=p.2/\L2 p.1)->Move U w' w' (Un U0 ν2 L2)-> ∀p∈F2 hp tm rq ps y os b,V2 U0 ν2 L2 w0 w' p.1 p.2
 | [],[],x,y,bl,b,h,hr,hm=>by
   obtain⟨_,rfl⟩:=hr;exact⟨⟨rfl,rfl,λi=>by simp[nuP,Eh,LW],λ_ _ _=>AXI,λp hp=>by simp[F2] at hp,λp hp=>by simp[nuP] at hp,λi hi=>by simp[Eh] at hi⟩,λν2 L2 _ _ p hp=>by simp[F2] at hp⟩
 | [],_::_,x,y,bl,b,h,hr,hm=>by simp[Cm] at h
 | .ty _::_,[],x,y,bl,b,h,hr,hm=>by simp[Cm] at h
 | .st _ _::_,[],x,y,bl,b,h,hr,hm=>by simp[Cm] at h
 | .Ml _ _::_,[],x,y,bl,b,h,hr,hm=>by simp[Cm] at h
 | .ty t::ts,o::os,x,y,bl,b,h,hr,hm=>by
   simp only[Cm] at h;split at h
   · rename_i cs hc
     split at h
     · rename_i x1 hx1
       split at h
       · rename_i ys hys
         exact gy I (ps:=ts) (os:=os) (y:=y) b hys hr hm
       · cases h
     · cases h
   · cases h
 | .st e fs::ts,o::os,x,y,bl,b,h,hr,hm=>by
   simp only[Cm] at h;split at h
   · rename_i j hc
     split at h
     · rename_i lq e' cs hb
       split at h
       · rename_i he
         subst he;split at h
         · rename_i x1 hx1
           split at h
           · rename_i ys hys
             obtain⟨g,us,us',b1,b2,e1,e2,e3,f1,f2,rfl,f3⟩:=hr;obtain⟨hj,g0,hν,hv⟩:=val_one (hc▸I.Aa o);have hv:a.eval o= .pointer (some ⟨g0,0,none⟩):=hv;have e1:a.eval o= .pointer (some ⟨g,0,none⟩):=e1;rw[hv] at e1;injection e1 with e1;injection e1 with e1;injection e1 with e1;subst e1;obtain⟨g',vs,h1,h2,h3,h4,h5⟩:=I.cells hb;rw[hν] at h1;injection h1 with h1;injection h1 with h1;injection h1 with h1;subst h1;rw[e2] at h3;injection h3 with h3;injection h3 with h3;have h3:us=vs:=(by simpa using congrArg Array.toList h3);subst h3;have hus:TX w' (ν j)=us':=(by unfold TX;rw[hν];simp[e3]);obtain⟨A1,B1⟩:=Ye I (rq:=rq) b hx1 h4 f1 f2 (λk hk=>hm k (AUB _ (AUK _ hk)));obtain⟨A2,B2⟩:=gy I (rq:=rq) (ps:=ts) (os:=os) (y:=y.2) (b+F0 fs) hys f3 (λk hk=>hm k (AUB _ (AUG _ hk)));have hid:Eh hp tm (.st e' fs::ts) (o::os)=j::(Ih fs cs++Eh hp tm ts os):=(by simp only[Eh,hc,hb]);have hnu:nuP ν hp tm w' (.st e' fs::ts) (o::os) b=(j,ν j)::(Td ν fs cs us' b++nuP ν hp tm w' ts os (b+F0 fs)):=(by simp only[nuP,hc,hb,hus]);have haf:F2 hp tm rq (.st e' fs::ts) y (o::os) b=(j, .cells lq e' (ED hp rq fs y.1 cs b).1)::((ED hp rq fs y.1 cs b).2++F2 hp tm rq ts y.2 os (b+F0 fs)):=(by simp only[F2,hc,hb]);have hgr:(List.range (LW (.st e' fs::ts))).map (b+ ·)=(List.range (F0 fs)).map (b+ ·)++(List.range (LW ts)).map (b+F0 fs+ ·):=oO b _ _;rw[hid,hnu,haf,hgr];have A:=(A1.app A2).cons (j:=j) (b:= .cells lq e' (ED hp rq fs y.1 cs b).1) rfl (λb0 z1 z2=>by rw[hb] at z1;injection z1 with z1;subst z1;cases lq<;>exact z2);refine⟨by rw[hν] at A ⊢;exact A,λν2 L2 q1 q2 p hp=> ?_⟩;have q0:=q1 (j,ν j) AUC;obtain⟨z1,z2⟩:=B1 ν2 L2 (λp hp=>q1 p (AUB _ (AUK _ hp))) q2;rcases AUH.1 hp with rfl | hp
             · exact⟨g0,us',q0.1.trans hν,h2,e3,z1⟩
             · rcases AUj.1 hp with hp | hp
               · exact z2 p hp
               · exact B2 ν2 L2 (λp hp=>q1 p (AUB _ (AUG _ hp))) q2 p hp
           · cases h
         · cases h
       · cases h
     · cases h
   · cases h
 | .Ml e t::ts,o::os,x,y,bl,b,h,hr,hm=>by
   simp only[Cm] at h;split at h
   · rename_i j hc
     split at h
     · rename_i lq e' t' xs hb
       split at h
       · rename_i q
         obtain⟨rfl,rfl⟩:=q;split at h
         · rename_i ys hys
           obtain⟨inner,b2,f1,f2,rfl,f3⟩:=hr;obtain⟨hj,hv⟩:=val_one (hc▸I.Aa o);obtain⟨⟨AFA,y1,y2⟩,y3⟩:=I.mem j _ hb rfl;have hv:a.eval o=ν j:=hv.trans (JS y1).1;obtain⟨A2,B2⟩:=gy I (rq:=rq) (ps:=ts) (os:=os) (y:=y.2) b hys f3 (λk hk=>hm k (AUG _ hk));have hid:Eh hp tm (.Ml e' t'::ts) (o::os)=j::Eh hp tm ts os:=(by simp only[Eh,hc]);have hnu:nuP ν hp tm w' (.Ml e' t'::ts) (o::os) b=(j,ν j)::nuP ν hp tm w' ts os b:=(by simp only[nuP,hc]);have haf:F2 hp tm rq (.Ml e' t'::ts) y (o::os) b=(j, .row lq e' t' y.1)::F2 hp tm rq ts y.2 os b:=(by simp only[F2,hc,hb]);rw[hid,hnu,haf];have A:=A2.cons (j:=j) (b:= .row lq e' t' y.1) rfl (λb0 z1 z2=>by rw[hb] at z1;injection z1 with z1;subst z1;cases lq<;>exact z2);refine⟨by rw[hv];exact A,λν2 L2 q1 q2 p hp=> ?_⟩;have q0:=q1 (j,ν j) AUC;rcases AUH.1 hp with rfl | hp
           · refine⟨⟨inner, ?_,f2.Ig λ_ _ z=>z.move q2⟩,λk hk=>y3 k ((congrArg DO (show ν j=ν2 j from q0.1.symm)).trans hk)⟩
             have f1:w'.ownsRow 0 e' (kd t').sz (a.eval o) (List.length y.1) inner:=f1;rw[hv] at f1;rw[q0.1];exact jQ f1 λk hk=>YK (y3 k hk)
           · exact B2 ν2 L2 (λp hp=>q1 p (AUB _ hp)) q2 p hp
         · cases h
       · cases h
     · cases h
   · cases h
theorem VZ {hp CY:List AB} {rq:Lq} : ∀ {fs:List FK} {cs:List AC} {x:FT fs},LO hp fs cs=some x->(∀j∈Ih fs cs,hp[j]? =CY[j]?)->LO CY fs cs=some x/\(∀y b,ED CY rq fs y cs b=ED hp rq fs y cs b)/\Oh CY fs cs=Oh hp fs cs
 | [],[],x,h,hs=>⟨h,λ_ _=>rfl,rfl⟩
 | [],_::_,x,h,hs=>by simp[LO] at h
 | .ty t::l,cs,x,h,hs=>by
   simp only[LO] at h;split at h
   · rename_i hn
     split at h
     · rename_i y cs' hy
       split at h
       · rename_i ys hys
         injection h with h;subst h;obtain⟨rfl,_⟩:=L3 hy;obtain⟨q1,q2,q3⟩:=VZ (rq:=rq) hys hs;refine⟨?_,λy b=> ?_,q3⟩
         · simp only[LO,hn,if_true,<-az (hp:=hp) (CY:=CY) hn,hy,q1]
         · simp only[ED,q2]
       · cases h
     · cases h
   · cases h
 | .row kp e t::l,[],x,h,hs=>by cases kp<;>simp[LO] at h
 | .row kp e t::l,c::cs,x,h,hs=>by
   have own : ∀ {j:Nat} {lq:Lq} {e':TypeId} {t':Ty} {xs:List (T t')},c= .own j->hp[j]? =some (.row lq e' t' xs)->(if h:e'=e/\t'=t then(match LO hp l cs with
    | some y=>h.2▸some (xs,y)
    | none=>none) else none)=some x->(if h:e'=e/\t'=t then(match LO CY l cs with
    | some y=>h.2▸some (xs,y)
    | none=>none) else none)=some x/\(∀y b,ED CY rq l y cs b=ED hp rq l y cs b)/\Oh CY l cs=Oh hp l cs:=by
    clear h;intro j lq e' t' xs hc hb h;subst hc;split at h
    · rename_i q
      obtain⟨rfl,rfl⟩:=q;split at h
      · rename_i ys hys
        obtain⟨q1,q2,q3⟩:=VZ (rq:=rq) hys λi hi=>hs i (AUB _ hi)
        rw[dif_pos ⟨rfl,rfl⟩,q1];exact⟨h,q2,q3⟩
      · cases h
    · cases h
   cases c with
   | own j =>
     have hj:=hs j AUC;cases kp with
     | true =>
       simp only[LO,<-hj] at h ⊢;split at h
       · rename_i lq e' t' xs hb
         obtain⟨q1,q2,q3⟩:=own rfl hb h;refine⟨q1,λy b=> ?_, ?_⟩
         · simp only[ED,<-hj,q2]
         · simp only[Oh,<-hj,q3]
       · cases h
     | false =>
       simp only[LO,<-hj] at h ⊢;split at h
       · rename_i e' t' xs hb
         obtain⟨q1,q2,q3⟩:=own rfl hb h;refine⟨q1,λy b=> ?_, ?_⟩
         · simp only[ED,q2]
         · simp only[Oh,<-hj,q3]
       · rename_i e' t' xs hb
         obtain⟨q1,q2,q3⟩:=own rfl hb h;refine⟨q1,λy b=> ?_, ?_⟩
         · simp only[ED,q2]
         · simp only[Oh,<-hj,q3]
       · cases h
   | CA =>
     cases kp with
     | true=>simp[LO] at h
     | false =>
       simp only[LO] at h;split at h
       · rename_i ys hys
         obtain⟨q1,q2,q3⟩:=VZ (rq:=rq) hys hs;refine⟨by simp only[LO,q1];exact h,λy b=> ?_,by simp only[Oh,q3]⟩;simp only[ED,q2]
       · cases h
   | _=>cases kp<;>simp[LO] at h
theorem MK {hp CY:List AB} {tm F3:List AV} {rq:Lq} : ∀ {ps:List PK} {os:List Operand} {x:PT ps},Cm hp tm ps os=some x->(∀o∈os,Aa tm o=Aa F3 o)->(∀o∈os,∀t,Fk hp t (cellsOf (Aa tm o))=Fk CY t (cellsOf (Aa tm o)))->(∀j∈Eh hp tm ps os,hp[j]? =CY[j]?) ->
 Cm CY F3 ps os=some x/\Eh CY F3 ps os=Eh hp tm ps os/\(∀y b,F2 CY F3 rq ps y os b=F2 hp tm rq ps y os b)/\IX CY F3 ps os=IX hp tm ps os
 | [],[],x,h,ht,h1,h2=>⟨h,rfl,λ_ _=>rfl,rfl⟩
 | [],_::_,x,h,ht,h1,h2=>by simp[Cm] at h
 | .ty _::_,[],x,h,ht,h1,h2=>by simp[Cm] at h
 | .st _ _::_,[],x,h,ht,h1,h2=>by simp[Cm] at h
 | .Ml _ _::_,[],x,h,ht,h1,h2=>by simp[Cm] at h
 | .ty t::ts,o::os,x,h,ht,h1,h2=>by
   simp only[Cm] at h;have e0:=ht o AUC;split at h
   · rename_i cs hc
     split at h
     · rename_i x1 hx1
       split at h
       · rename_i ys hys
         have e1:=h1 o AUC t;rw[hc] at e1;have e1:Fk hp t cs=Fk CY t cs:=e1;obtain⟨q1,q2,q3,q4⟩:=MK (rq:=rq) (F3:=F3) hys (λo ho=>ht o (AUB _ ho)) (λo ho=>h1 o (AUB _ ho)) h2;refine⟨?_,q2,λy b=>q3 y b,q4⟩;simp only[Cm,<-e0,hc,<-e1,hx1,q1];exact h
       · cases h
     · cases h
   · cases h
 | .st e fs::ts,o::os,x,h,ht,h1,h2=>by
   simp only[Cm] at h;have e0:=ht o AUC;split at h
   · rename_i j hc
     split at h
     · rename_i lq e' cs hb
       split at h
       · rename_i he
         subst he;split at h
         · rename_i x1 hx1
           split at h
           · rename_i ys hys
             have hid:Eh hp tm (.st e' fs::ts) (o::os)=j::(Ih fs cs++Eh hp tm ts os):=(by simp only[Eh,hc,hb]);rw[hid] at h2 ⊢;have hj:=h2 j AUC;have hb':CY[j]? =some (.cells lq e' cs):=hj▸hb;obtain⟨z1,z2,z3⟩:=VZ (rq:=rq) (CY:=CY) hx1 λi hi=>h2 i (AUB _ (AUK _ hi))
             obtain⟨q1,q2,q3,q4⟩:=MK (rq:=rq) (F3:=F3) hys (λo ho=>ht o (AUB _ ho)) (λo ho=>h1 o (AUB _ ho)) λi hi=>h2 i (AUB _ (AUG _ hi))
             refine⟨?_, ?_,λy b=> ?_, ?_⟩
             · simp only[Cm,<-e0,hc,hb',z1,q1,if_true]
               exact h
             · simp only[Eh,<-e0,hc,hb',q2]
             · simp only[F2,<-e0,hc,hb',hb,q3,z2]
             · cases lq<;>simp only[IX,<-e0,hc,hb',hb,q4,z3]
           · cases h
         · cases h
       · cases h
     · cases h
   · cases h
 | .Ml e t::ts,o::os,x,h,ht,h1,h2=>by
   simp only[Cm] at h;have e0:=ht o AUC;split at h
   · rename_i j hc
     split at h
     · rename_i lq e' t' xs hb
       split at h
       · rename_i q
         obtain⟨rfl,rfl⟩:=q;split at h
         · rename_i ys hys
           have hid:Eh hp tm (.Ml e' t'::ts) (o::os)=j::Eh hp tm ts os:=(by simp only[Eh,hc]);rw[hid] at h2 ⊢;have hj:=h2 j AUC;have hb':CY[j]? =some (.row lq e' t' xs):=hj▸hb;obtain⟨q1,q2,q3,q4⟩:=MK (rq:=rq) (F3:=F3) hys (λo ho=>ht o (AUB _ ho)) (λo ho=>h1 o (AUB _ ho)) λi hi=>h2 i (AUB _ hi)
           refine⟨?_, ?_,λy b=> ?_, ?_⟩
           · simp only[Cm,<-e0,hc,hb',q1]
             simpa using h
           · simp only[Eh,<-e0,hc,q2]
           · simp only[F2,<-e0,hc,hb',hb,q3]
           · cases lq<;>simp only[IX,<-e0,hc,hb',hb,q4]
         · cases h
       · cases h
     · cases h
   · cases h
theorem Yf (I:Inv U0 ν tm hp w0 a w) : ∀ {fs:List FK} {cs:List AC},Oh hp fs cs=true-> ∀j∈Ih fs cs,∀k,DO (ν j)=some k->w0.heap.size<=k
 | [],cs,h,j,hj,k,hk=>by simp[Ih] at hj
 | .ty t::l,cs,h,j,hj,k,hk=>Yf I (fs:=l) h j hj k hk
 | .row kp e t::l,[],h,j,hj,k,hk=>by simp[Ih] at hj
 | .row kp e t::l,c::cs,h,j,hj,k,hk=>by
   cases c with
   | own i =>
     simp only[Oh,AUO] at h;rcases AUH.1 hj with rfl | hj
     · have h1:=h.1
       split at h1
       · rename_i e' t' xs hb
         exact I.VS hb hk
       · cases h1
     · exact Yf I h.2 j hj k hk
   | _=>exact Yf I (fs:=l) (cs:=cs) h j hj k hk
theorem Yg (I:Inv U0 ν tm hp w0 a w) : ∀ {ps:List PK} {os:List Operand},IX hp tm ps os=true-> ∀j∈Eh hp tm ps os,∀k,DO (ν j)=some k->w0.heap.size<=k
 | [],os,h,j,hj,k,hk=>by simp[Eh] at hj
 | .ty _::_,[],h,j,hj,k,hk=>by simp[Eh] at hj
 | .st _ _::_,[],h,j,hj,k,hk=>by simp[Eh] at hj
 | .Ml _ _::_,[],h,j,hj,k,hk=>by simp[Eh] at hj
 | .ty t::ts,o::os,h,j,hj,k,hk=>Yg I (ps:=ts) (os:=os) h j hj k hk
 | .st e fs::ts,o::os,h,j,hj,k,hk=>by
   simp only[IX,AUO] at h;obtain⟨h1,h2⟩:=h;simp only[Eh] at hj;split at h1
   · rename_i i hc
     rw[hc] at hj;simp only at hj;split at h1
     · rename_i e' cs hb
       rw[hb] at hj;simp only at hj;rcases AUH.1 hj with rfl | hj
       · obtain⟨g,vs,z1,z2,_⟩:=I.cells hb
         rw[z1] at hk;injection hk with hk;exact hk▸z2
       · rcases AUj.1 hj with hj | hj
         · exact Yf I h1 j hj k hk
         · exact Yg I h2 j hj k hk
     · cases h1
   · cases h1
 | .Ml e t::ts,o::os,h,j,hj,k,hk=>by
   simp only[IX,AUO] at h;obtain⟨h1,h2⟩:=h;simp only[Eh] at hj;split at h1
   · rename_i i hc
     rw[hc] at hj;simp only at hj;split at h1
     · rename_i e' t' xs hb
       rcases AUH.1 hj with rfl | hj
       · exact I.VS hb hk
       · exact Yg I h2 j hj k hk
     · cases h1
   · cases h1
theorem rE : ∀(ps:List PK) (os:List Operand),Ph hp (gl hp tm ps os)
 | [],_=>λp h=>by simp[gl] at h
 | .ty _::ts,o::os=>(Mm _).app (rE ts os)
 | .st _ _::ts,_::os=>rE ts os
 | .Ml _ _::ts,_::os=>rE ts os
 | .ty _::_,[]=>λp h=>by simp[gl] at h
 | .st _ _::_,[]=>λp h=>by simp[gl] at h
 | .Ml _ _::_,[]=>λp h=>by simp[gl] at h
theorem vk {l l':List (Nat × AB)} {j:Nat} :LK (l++l') j=(LK l j || LK l' j):=by
 induction l with
 | nil=>simp[LK]
 | cons p l ih=>simp[LK,ih,Bool.or_assoc]
theorem Yh {l:List (Nat × AB)} (hl:Ph hp l) : ∀ {ps:List PK} {os:List Operand},(∀j,LK (gl hp tm ps os) j=true->LK l j=true)->AB2 (Dx l hp) tm ps os
 | [],os,h=>by cases os<;>trivial
 | .ty _::_,[],h=>trivial
 | .st _ _::_,[],h=>trivial
 | .Ml _ _::_,[],h=>trivial
 | .ty t::ts,o::os,h=>by
   refine⟨λj e t xs hj hb=> ?_,Yh hl λj hj=>h j (by simp[gl,vk,hj])⟩;rcases Gw hl j with q | ⟨_,_,_,_,q,_⟩
   · rw[q] at hb
     obtain⟨_,_,_,z⟩:=qj hl (h j (by simp[gl,vk,Pj hj hb]));rw[q,hb] at z;cases z
   · rw[q] at hb;cases hb
 | .st _ _::ts,_::os,h=>Yh hl (ps:=ts) (os:=os) h
 | .Ml _ _::ts,_::os,h=>Yh hl (ps:=ts) (os:=os) h
theorem AB3 {hp:List AB} : ∀(l l':List (Nat × AB)),Dx (l++l') hp=Dx l (Dx l' hp)
 | [],_=>rfl
 | (j,b)::l,l'=>by
   show(Dx (l++l') hp).set j b=(Dx l (Dx l' hp)).set j b;rw[AB3 l l']
theorem AB4 {hp:List AB} : ∀(l:List (Nat × AB)),(Dx l hp).length=hp.length
 | []=>rfl
 | (j,b)::l=>by simp[Dx,AB4 l]
theorem gu {hp:List AB} {i:Nat} : ∀ {l:List (Nat × AB)},i ∉ l.map (·.1)->(Dx l hp)[i]? =hp[i]?
 | [],_=>rfl
 | (j,b)::l,h=>by
   simp only[AUr,AUH,not_or] at h;simp only[Dx,AUc (AXF h.1)];exact gu h.2
theorem AAC {hp:List AB} {i:Nat} {b:AB} (hi:i<hp.length) : ∀ {l:List (Nat × AB)},(l.map (·.1)).Nodup->(i,b)∈l->(Dx l hp)[i]? =some b
 | (j,c)::l,hn,h=>by
   obtain⟨h1,h2⟩:=AVL.1 hn;rcases AUH.1 h with e | h
   · injection e with e1 e2
     subst e1 e2;simp[Dx,AB4,hi]
   · have:j≠i:=λe=>h1 (e▸AUx.2 ⟨_,h,rfl⟩)
     simp only[Dx,AUc this];exact AAC hi h2 h
def Hz (N:List (Nat × Value)) (d:Nat->Value) (i:Nat):Value:=match N with
 | []=>d i
 | (j,v)::l=>if i=j then v else Hz l d i
theorem oT {d:Nat->Value} {i:Nat} : ∀ {N:List (Nat × Value)},i ∉ N.map (·.1)->Hz N d i=d i
 | [],_=>rfl
 | (j,v)::l,h=>by
   simp only[AUr,AUH,not_or] at h;simp only[Hz,if_neg h.1];exact oT h.2
theorem jR {d:Nat->Value} {i:Nat} {v:Value} : ∀ {N:List (Nat × Value)},(N.map (·.1)).Nodup->(i,v)∈N->Hz N d i=v
 | (j,c)::l,hn,h=>by
   obtain⟨h1,h2⟩:=AVL.1 hn;rcases AUH.1 h with e | h
   · injection e with e1 e2
     subst e1 e2;simp[Hz]
   · have:i≠j:=λe=>h1 (e▸AUx.2 ⟨_,h,rfl⟩)
     simp only[Hz,if_neg this];exact jR h2 h
theorem XP {α:Type} {f:α->List Nat} : ∀ {N:List α},(N.flatMap f).Nodup-> ∀ {p q:α} {k:Nat},p∈N->q∈N->k∈f p->k∈f q->p=q
 | a::N,hn,p,q,k,hp,hq,h1,h2=>by
   rw[AVc] at hn;obtain⟨n1,n2,n3⟩:=AWg.1 hn;rcases AUH.1 hp with e1 | g1<;>rcases AUH.1 hq with e2 | g2
   · rw[e1,e2]
   · subst e1;exact absurd rfl (n3 k h1 k (AVm.2 ⟨q,g2,h2⟩))
   · subst e2;exact absurd rfl (n3 k h2 k (AVm.2 ⟨p,g1,h1⟩))
   · exact XP n2 g1 g2 h1 h2
theorem oU {U U':Nat->Prop} (m:Move U w' w' U') : ∀ {rs:List Ty} {x:TT rs} {us:List Value},qm U w' rs x us->qm U' w' rs x us
 | [],_,_,h=>h
 | t::ts,x,u::us,⟨⟨cs,h1,h2⟩,h3⟩=>⟨⟨cs,h1,h2.move m⟩,oU m h3⟩
 | _::_,_,[],h=>h.elim
theorem vn {rq:Lq} : ∀ {fs:List FK} {cs:List AC} {x y:FT fs} {b:Nat},AEe fs=true->LO hp fs cs=some x->(ED hp rq fs y cs b).1=cs
 | [],[],x,y,b,_,h=>rfl
 | [],_::_,x,y,b,_,h=>by simp[LO] at h
 | .ty t::l,cs,x,y,b,hk,h=>by simp[AEe] at hk
 | .row false e t::l,cs,x,y,b,hk,h=>by simp[AEe] at hk
 | .row true e t::l,[],x,y,b,hk,h=>by simp[LO] at h
 | .row true e t::l,c::cs,x,y,b,hk,h=>by
   cases c with
   | own j =>
     simp only[LO] at h;split at h
     · split at h
       · split at h
         · rename_i ys hys
           simp only[ED];rw[vn (fs:=l) (y:=y.2) hk hys]
         · cases h
       · cases h
     · cases h
   | _=>simp[LO] at h
theorem QD {rq:Lq} : ∀ {ps:List PK} {os:List Operand} {x:PT ps} {y:ET ps} {b:Nat},Cm hp tm ps os=some x-> ∀j∈EL tm ps os,(∃q e cs,(j,AB.cells q e cs)∈F2 hp tm rq ps y os b/\hp[j]? =some (.cells q e cs))/\ ∃o∈os,∃n,Aa tm o= .val [.ptr j n]
 | [],[],x,y,b,h,j,hj=>by simp[EL] at hj
 | [],_::_,x,y,b,h,j,hj=>by simp[Cm] at h
 | .ty t::ts,[],x,y,b,h,j,hj=>by simp[Cm] at h
 | .st e fs::ts,[],x,y,b,h,j,hj=>by simp[Cm] at h
 | .Ml e t::ts,[],x,y,b,h,j,hj=>by simp[Cm] at h
 | .ty t::ts,o::os,x,y,b,h,j,hj=>by
   simp only[Cm] at h;split at h
   · split at h
     · split at h
       · rename_i xs hxs
         obtain⟨q1,o',q2,q3⟩:=QD (rq:=rq) (ps:=ts) (y:=y) (b:=b) hxs j hj;exact⟨q1,o',AUB _ q2,q3⟩
       · cases h
     · cases h
   · cases h
 | .Ml e t::ts,o::os,x,y,b,h,j,hj=>by
   simp only[Cm] at h;split at h
   · rename_i i hc
     split at h
     · rename_i lq e' t' xs hb
       split at h
       · rename_i q
         obtain⟨rfl,rfl⟩:=q;split at h
         · rename_i ys hys
           obtain⟨⟨lq0,e0,cs0,q1,q4⟩,o',q2,q3⟩:=QD (rq:=rq) (ps:=ts) (y:=y.2) (b:=b) hys j hj;refine⟨⟨lq0,e0,cs0, ?_,q4⟩,o',AUB _ q2,q3⟩;simp only[F2,hc,hb];exact AUB _ q1
         · cases h
       · cases h
     · cases h
   · cases h
 | .st e fs::ts,o::os,x,y,b,h,j,hj=>by
   simp only[Cm] at h;split at h
   · rename_i i hc
     split at h
     · rename_i lq e' cs hb
       split at h
       · rename_i he
         subst he;split at h
         · rename_i xf hxf
           split at h
           · rename_i xs hxs
             have haf:F2 hp tm rq (.st e' fs::ts) y (o::os) b=(i, .cells lq e' (ED hp rq fs y.1 cs b).1)::((ED hp rq fs y.1 cs b).2++F2 hp tm rq ts y.2 os (b+F0 fs)):=(by simp only[F2,hc,hb]);have rest:j∈EL tm ts os->(∃q e cs,(j,AB.cells q e cs)∈F2 hp tm rq (.st e' fs::ts) y (o::os) b/\hp[j]? =some (.cells q e cs))/\ ∃o'∈o::os,∃n,Aa tm o'= .val [.ptr j n]:=λhj=>by
              obtain⟨⟨lq0,e0,cs0,q1,q4⟩,o',q2,q3⟩:=QD (rq:=rq) (ps:=ts) (y:=y.2) (b:=b+F0 fs) hxs j hj;exact⟨⟨lq0,e0,cs0,by rw[haf];exact AUB _ (AUG _ q1),q4⟩,o',AUB _ q2,q3⟩
             simp only[EL,hc] at hj;split at hj
             · rename_i hk hi
               injection hi with hi;injection hi with hi _;injection hi with hi _;subst hi;rcases AUH.1 hj with rfl | hj
               · refine⟨⟨lq,e',cs, ?_,hb⟩,o,AUC,0,hc⟩
                 rw[haf,vn hk hxf];exact AUC
               · exact rest hj
             · exact rest hj
           · cases h
         · cases h
       · cases h
     · cases h
   · cases h
theorem Te {ks:List Nat} : ∀ {l:List (Nat × AB)} {q:Nat},q∈l.map (·.1)->q ∉ ks->q∈(without ks l).map (·.1)
 | p::l,q,h,hk=>by
   simp only[without];rcases AUH.1 h with rfl | h
   · rw[if_neg (by simpa using hk)]
     exact AUC
   · split
     · exact Te h hk
     · exact AUB _ (Te h hk)
theorem Qy {F3:List AV} : ∀ {ps:List PK} {os:List Operand},(∀x∈os,Aa tm x=Aa F3 x)->EL F3 ps os=EL tm ps os
 | [],[],_=>rfl
 | [],_::_,_=>rfl
 | .ty _::_,[],_=>rfl
 | .st _ _::_,[],_=>rfl
 | .Ml _ _::_,[],_=>rfl
 | .ty _::ts,o::os,h=>Qy (ps:=ts) λx hx=>h x (AUB _ hx)
 | .Ml _ _::ts,o::os,h=>Qy (ps:=ts) λx hx=>h x (AUB _ hx)
 | .st _ fs::ts,o::os,h=>by
   simp only[EL,<-h o AUC,Qy (ps:=ts) λx hx=>h x (AUB _ hx)]
theorem rF : ∀ {l:List (Nat × AB)} {p:Nat × AB},p∈l->0<qW l p.1
 | q::l,p,h=>by
   simp only[qW];split
   · omega
   · rename_i hne
     rcases AUH.1 h with rfl | h
     · exact absurd rfl hne
     · exact rF h
theorem AB5 : ∀ {l:List (Nat × AB)} {j:Nat} {b b':AB},qW l j=1->(j,b)∈l->(j,b')∈l->b=b'
 | q::l,j,b,b',hc,h,h'=>by
   simp only[qW] at hc;split at hc
   · rename_i hq
     have h0:qW l j=0:=(by omega);rcases AUH.1 h with e | h
     · rcases AUH.1 h' with e' | h'
       · rw[<-e] at e';exact(congrArg Prod.snd e').symm
       · have:=rF h';simp only at this;omega
     · have:=rF h;simp only at this;omega
   · rename_i hq
     have hm : ∀ {c:AB},(j,c)∈q::l->(j,c)∈l:=λ{c} z=>(AUH.1 z).resolve_left λe=>hq (by rw[<-e])
     exact AB5 hc (hm h) (hm h')
theorem vo {ks:List Nat} : ∀ {l:List (Nat × AB)},(∀p∈l,p.1∈ks->hp[p.1]? =some p.2)-> ∀t∈ks,(Dx l hp)[t]? =hp[t]?
 | [],_,t,_=>rfl
 | (j,b)::l,h,t,ht=>by
   have ih:=vo (l:=l) (λp hp=>h p (AUB _ hp)) t ht;simp only[Dx];by_cases e:j=t
   · subst e
     have hb:=h (j,b) AUC ht;have hl:j<(Dx l hp).length:=by
      rw[hb] at ih;exact(AUI.1 ih).1
     rw[AU7 hl,hb]
   · rw[AUc e,ih]
theorem cU {ks:List Nat} : ∀ {l:List (Nat × AB)},(∀p∈l,p.1∈ks->hp[p.1]? =some p.2)->Dx (without ks l) hp=Dx l hp
 | [],_=>rfl
 | (j,b)::l,h=>by
   have ih:=cU (l:=l) (λp hp=>h p (AUB _ hp));simp only[without];by_cases hj:ks.contains j=true
   · rw[if_pos hj,ih]
     have hm:j∈ks:=(by simpa using hj);have hk:=vo (l:=l) (λp hp=>h p (AUB _ hp)) j hm;have hb:=h (j,b) AUC hm;have hb:hp[j]? =some b:=hb;simp only[Dx];apply AVK;intro t;by_cases e:j=t
     · subst e
       have hl:j<(Dx l hp).length:=by
        rw[hb] at hk;exact(AUI.1 hk).1
       rw[AU7 hl,hk,hb]
     · rw[AUc e]
   · rw[if_neg hj]
     simp only[Dx,ih]
theorem oV {rq:Lq} {ps:List PK} {os:List Operand} {x:PT ps} {y:ET ps} {b:Nat} (h:Cm hp tm ps os=some x) :
 iw (F2 hp tm rq ps y os b) (EL tm ps os)=F2 hp tm rq ps y os b\/(iw (F2 hp tm rq ps y os b) (EL tm ps os)=without (EL tm ps os) (F2 hp tm rq ps y os b)/\ ∀p∈F2 hp tm rq ps y os b,p.1∈EL tm ps os->hp[p.1]? =some p.2):=by
 cases hk:EL tm ps os with
 | nil=>exact .inl rfl
 | cons k ks =>
   simp only[iw];split
   · rename_i hc
     refine .inr ⟨rfl,λp OV Mw=> ?_⟩;obtain⟨⟨lq0,e0,cs0,q1,q2⟩,_⟩:=QD (rq:=rq) (y:=y) (b:=b) h p.1 (by rw[hk];exact Mw);have hone:qW (F2 hp tm rq ps y os b) p.1=1:=by
      have:=AUs.1 hc p.1 Mw;simpa using this
     rw[AB5 hone OV q1];exact q2
   · exact .inl rfl
theorem AFB {rq:Lq} {ps:List PK} {os:List Operand} {x:PT ps} {y:ET ps} {b:Nat} (h:Cm hp tm ps os=some x) (He:List AB) (hs : ∀j∈EL tm ps os,He[j]? =hp[j]?):Dx (iw (F2 hp tm rq ps y os b) (EL tm ps os)) He=Dx (F2 hp tm rq ps y os b) He:=by
 rcases oV (rq:=rq) (y:=y) (b:=b) h with e | ⟨e,q⟩
 · rw[e]
 · rw[e]
   exact cU λp OV Mw=>(hs _ Mw).trans (q p OV Mw)
theorem AKj (hS:Gu P S k) (I:Inv U0 ν tm hp w0 a w) (hU : ∀q,U0 q->q<w0.heap.size) {c:Call} {g:FuncId} (hg:c.callee= .value (.func g)) (ho:o.op= .call c) {s:DU} {nm:List (Nat × Nat)} (hs:S g=some (.io s nm)) {x:PT s.ps} {b:Nat} (hx:Cm hp tm s.ps c.args.toList=some x) (hl:uy hp tm s.ps c.args.toList b=true)
 (h:(Tree.nD (s.f k x) λr=>K (zg s.rs r.1) ⟨none,iw (F2 hp tm (LV (IX hp tm s.ps c.args.toList)) s.ps r.2 c.args.toList b) (EL tm s.ps c.args.toList)++gl hp tm s.ps c.args.toList⟩).run=some r):DE P Θ S k o U0 ν tm hp w0 a w K r:=by
 obtain⟨y,hf,h⟩:=Tree.VT h;refine⟨_,_,h, ?_⟩;intro hh next Q hn
 obtain⟨hb,hk⟩:=hS g _ hs;unfold Oper.wp;rw[VY hg ho hb,Oper.upon_enter];simp only[uy,AUO,AUs,AVb,AVl,decide_eq_false_iff_not,AVR] at hl;obtain⟨⟨l1,l2⟩,l3⟩:=hl;have hnd:=XO l1;have hfz:=rE (hp:=hp) (tm:=tm) s.ps c.args.toList;obtain⟨ν1,I1⟩:=I.KD hU hfz;have hsame : ∀j∈Eh hp tm s.ps c.args.toList,hp[j]? =(Dx (gl hp tm s.ps c.args.toList) hp)[j]? :=λj hj=>by
  refine(gu λhm=> ?_).symm;obtain⟨p,OV,Mw⟩:=AUx.1 hm;exact l2 p OV (Mw▸hj)
 have ALz : ∀i,i<LW s.ps->(Dx (gl hp tm s.ps c.args.toList) hp)[b+i]? =some .gone:=λi hi=>by
  have h0:=l3 i hi;unfold AEf at h0;split at h0
  · rename_i hg0
    rcases Gw hfz (b+i) with q | ⟨_,_,_,q,_⟩
    · rw[q,hg0]
    · rw[hg0] at q;cases q
  · cases h0
 obtain⟨c1,c2,c3,c4⟩:=MK (CY:=Dx (gl hp tm s.ps c.args.toList) hp) (F3:=tm) (rq:=LV (IX hp tm s.ps c.args.toList)) hx (λ_ _=>rfl) (λo _ t=>(gw hfz t _).symm) hsame;have ABz:=Yh (tm:=tm) hfz (ps:=s.ps) (os:=c.args.toList) (λ_ z=>z);have hE:Qq o.dst hp ⟨none,iw (F2 hp tm (LV (IX hp tm s.ps c.args.toList)) s.ps y.2 c.args.toList b) (EL tm s.ps c.args.toList)++gl hp tm s.ps c.args.toList⟩=Dx (F2 (Dx (gl hp tm s.ps c.args.toList) hp) tm (LV (IX hp tm s.ps c.args.toList)) s.ps y.2 c.args.toList b) (Dx (gl hp tm s.ps c.args.toList) hp):=by
  rw[c3];refine Eq.trans ?_ (AFB (rq:=LV (IX hp tm s.ps c.args.toList)) (y:=y.2) (b:=b) hx (Dx (gl hp tm s.ps c.args.toList) hp) λj hj=> ?_)
  · rw[<-AB3]
    rfl
  · obtain⟨⟨lq0,e0,cs0,_,q2⟩,_⟩:=QD (rq:= .mine) (y:=y.2) (b:=0) hx j hj
    rcases Gw hfz j with q | ⟨_,_,_,q,_⟩
    · exact q
    · rw[q2] at q;injection q with q;cases q
 rw[hE] at hn;rw[<-c4] at hn;clear hE c3;rw[<-c2] at hnd;generalize Dx (gl hp tm s.ps c.args.toList) hp=OV at *;generalize hos:c.args.toList=os at *;clear hsame l1 l2 l3 hfz c2 c4 hh hx I;obtain⟨p1,p2⟩:=rC I1 ABz c1;have hUn : ∀q,Un U0 ν1 (lv OV) q->q<w.heap.size:=λq hq=>by
  rcases hq with hq | ⟨j,hj,hb⟩
  · exact AVC (hU q hq) I1.fr.size
  · exact(I1.lt hj hb).1
 have AE1 : ∀q∈qu ν1 (Eh OV tm s.ps os),Un U0 ν1 (lv OV) q:=λq hq=>by
  obtain⟨j,hj,hb⟩:=NN.1 hq;exact .inr ⟨j,p2 j hj,hb⟩
 refine((hk k (AUN _):IOk P g s k) x y hf (Un U0 ν1 (lv OV)) w _ _ hUn p1 (ay I1 hnd p2) AE1).mono λe w' hh=> ?_
 obtain⟨v,oP,rfl,hr,hend,AQQ,AKk,vp⟩:=hh;show next (a.put o.dst v) w'
 have AL0 : ∀q∈oP,Mj w0 (LV (IX OV tm s.ps os)) q:=λq hq=>by
  rcases(AKk q hq).1 with h1 | h1
  · obtain⟨j,hj,hb⟩:=NN.1 h1
    cases hmp:IX OV tm s.ps os with
    | true=>exact Yg I1 hmp j hj q hb
    | false=>exact(I1.lt (p2 j hj) hb).2
  · exact Mj.new (AVG I1.fr.size h1)
 obtain⟨A,B⟩:=gy I1 (w':=w') (rq:=LV (IX OV tm s.ps os)) b c1 hend AL0;generalize F2 OV tm (LV (IX OV tm s.ps os)) s.ps y.2 os b=E at *;generalize nuP ν1 OV tm w' s.ps os b=N at *;have hnews : ∀i∈(List.range (LW s.ps)).map (b+ ·),OV[i]? =some .gone:=λi hi=>by
  obtain⟨q,hq,rfl⟩:=AUx.1 hi;exact ALz q (AVR.1 hq)
 have vP : ∀i∈(List.range (LW s.ps)).map (b+ ·),¬lv OV i:=λi hi ⟨b',q1,q2⟩=>by
  rw[hnews i hi] at q1;injection q1 with q1;subst q1;cases q2
 have hNn:(N.map (·.1)).Nodup:=A.nodup hnd (by
  unfold List.Nodup;rw[List.pairwise_map];exact List.nodup_range.imp λh e=>h (Nat.add_left_cancel e)) (λi hi hi2=>vP i hi (p2 i hi2))
 have hEn:(E.map (·.1)).Nodup:=A.names▸hNn;have hlt : ∀i∈N.map (·.1),i<OV.length:=λi hi=>by
  rcases(A.mem i).1 hi with z | z
  · obtain⟨b',q1,_⟩:=p2 i z
    exact(AUI.1 q1).1
  · exact(AUI.1 (hnews i z)).1
 have hν2 : ∀p∈N,Hz N ν1 p.1=p.2:=λp hp=>jR hNn hp
 have hoff : ∀i,i ∉ N.map (·.1)->Hz N ν1 i=ν1 i/\(Dx E OV)[i]? =OV[i]? :=λi hi=>⟨oT hi,gu (A.names▸hi)⟩
 have hon : ∀i b',(i,b')∈E->(Dx E OV)[i]? =some b':=λi b' hi=>AAC (hlt i (A.names▸AUx.2 ⟨_,hi,rfl⟩)) hEn hi
 have AE2 : ∀i∈N.map (·.1),∃b',(i,b')∈E:=λi hi=>by
  obtain⟨p,hp,rfl⟩:=AUx.1 (A.names▸hi:i∈E.map (·.1));exact⟨p.2,hp⟩
 have hL2 : ∀i∈N.map (·.1),lv (Dx E OV) i:=λi hi=>by
  obtain⟨b',hb'⟩:=AE2 i hi;exact⟨b',hon i b' hb',A.live _ hb'⟩
 have hLo : ∀i,i ∉ N.map (·.1)->(lv (Dx E OV) i↔lv OV i):=λi hi=>by
  unfold lv;rw[(hoff i hi).2]
 have AKl : ∀p∈N,∀q,DO p.2=some q->q∈oP:=λp hp q hq=>by
  rw[A.rD];exact AVm.2 ⟨p,hp,by rw[hq];simp⟩
 have hun : ∀q,Un U0 (Hz N ν1) (lv (Dx E OV)) q->Un U0 ν1 (lv OV) q\/q∈oP:=λq hq=>by
  rcases hq with hq | ⟨i,hi,hb⟩
  · exact .inl (.inl hq)
  · by_cases TM:i∈N.map (·.1)
    · obtain⟨p,hp,rfl⟩:=AUx.1 TM
      rw[hν2 p hp] at hb;exact .inr (AKl p hp q hb)
    · rw[(hoff i TM).1] at hb
      exact .inl (.inr ⟨i,(hLo i TM).1 hi,hb⟩)
 have m2:Move (λq=>Un U0 ν1 (lv OV) q\/q∈oP) w' w' (Un U0 (Hz N ν1) (lv (Dx E OV))):=⟨AUN _,λ_ _ _=>rfl,λq _ hq=>hun q hq⟩;have m1:Move (Un U0 ν1 (lv OV)) w w' (Un U0 (Hz N ν1) (lv (Dx E OV))):=⟨vp.size,λq hq hnu=>vp.block q hq (λz=>hnu (AE1 q z)),λq hq hu=>by
  rcases hun q hu with z | z
  · exact z
  · rcases(AKk q z).1 with z | z
    · exact AE1 q z
    · omega⟩
 have hKp : ∀i,lv OV i->lv (Dx E OV) i/\Kp ν1 (Hz N ν1) i:=λi hi=>by
  by_cases TM:i∈N.map (·.1)
  · refine⟨hL2 i TM, ?_⟩
    obtain⟨p,hp,rfl⟩:=AUx.1 TM;rcases A.kp p hp with z | z | ⟨A',n',c',z1,z2⟩
    · exact absurd hi (vP _ z)
    · exact .inl ((hν2 p hp).trans z)
    · exact .inr ⟨A',n',c',z1,(hν2 p hp).trans z2⟩
  · exact⟨(hLo i TM).2 hi, .inl (hoff i TM).1⟩
 have hB:=B (Hz N ν1) (lv (Dx E OV)) (λp hp=>⟨hν2 p hp,hL2 p.1 (AUx.2 ⟨p,hp,rfl⟩)⟩) m2;refine hn (Hz N ν1) v w' (I1.put o.dst _ v m1 hKp ?_ (λi b' h1 h2=> ?_) (λi i' hii hi hi' q h1 h2=> ?_) ?_ ?_)
 · obtain⟨us,e1,e2⟩:=hr
   exact vX ⟨us,e1,oU m2 e2⟩
 · by_cases TM:i∈N.map (·.1)
   · obtain⟨b2,uN⟩:=AE2 i TM
     rw[hon i b2 uN] at h1;injection h1 with h1;subst h1;exact hB _ uN
   · obtain⟨e1,e2⟩:=hoff i TM
     rw[e2] at h1;refine(I1.mem i b' h1 h2).move m1 hKp e1 λq hq=> ?_
     have hql:=(I1.lt ⟨b',h1,h2⟩ hq).1;refine vp.block q hql λz=> ?_
     obtain⟨j,hj,hb⟩:=NN.1 z;have hji:j≠i:=λe=>TM ((A.mem i).2 (.inl (e▸hj)))
     exact I1.zI j i hji (p2 j hj) ⟨b',h1,h2⟩ q hb hq
 · have old : ∀ {i q},i ∉ N.map (·.1)->lv (Dx E OV) i->DO (Hz N ν1 i)=some q->lv OV i/\DO (ν1 i)=some q/\q<w.heap.size/\q ∉ oP:=λ{i q} TM hi hb=>by
    rw[(hoff i TM).1] at hb;have hi:=(hLo i TM).1 hi;have hql:=(I1.lt hi hb).1;refine⟨hi,hb,hql,λz=> ?_⟩;rcases(AKk q z).1 with z | z
    · obtain⟨j,hj,iZ⟩:=NN.1 z
      have hji:j≠i:=λe=>TM ((A.mem i).2 (.inl (e▸hj)))
      exact I1.zI j i hji (p2 j hj) hi q iZ hb
    · omega
   have new : ∀ {i q},i∈N.map (·.1)->DO (Hz N ν1 i)=some q-> ∃p∈N,p.1=i/\DO p.2=some q:=λ{i q} TM hb=>by
    obtain⟨p,hp,rfl⟩:=AUx.1 TM;rw[hν2 p hp] at hb;exact⟨p,hp,rfl,hb⟩
   by_cases TM:i∈N.map (·.1)<;>by_cases AFC:i'∈N.map (·.1)
   · obtain⟨p,z1,z2,z3⟩:=new TM h1
     obtain⟨p',y1,y2,y3⟩:=new AFC h2;have:p=p':=XP (A.rD▸AQQ) z1 y1 (k:=q) (by rw[z3];simp) (by rw[y3];simp);exact hii (by rw[<-z2,<-y2,this])
   · obtain⟨p,z1,z2,z3⟩:=new TM h1
     exact(old AFC hi' h2).2.2.2 (AKl p z1 q z3)
   · obtain⟨p,z1,z2,z3⟩:=new AFC h2
     exact(old TM hi h1).2.2.2 (AKl p z1 q z3)
   · exact I1.zI i i' hii (old TM hi h1).1 (old AFC hi' h2).1 q (old TM hi h1).2.1 (old AFC hi' h2).2.1
 · exact⟨vp.os.trans I1.fr.os,vp.tape.trans I1.fr.tape,vp.output.trans I1.fr.output,AVG I1.fr.size vp.size,λq hq cQ=>by
    have hql:=AVC hq I1.fr.size;rw[vp.block q hql λz=> ?_,I1.fr.block q hq cQ];obtain⟨j,hj,hb⟩:=NN.1 z;rcases(I1.lt (p2 j hj) hb).2 with z | z
    · omega
    · exact cQ z⟩
 · refine I1.fx.AEX λi b0 h1 h2=> ?_
   by_cases TM:i∈N.map (·.1)
   · have hid:i∈Eh OV tm s.ps os:=((A.mem i).1 TM).resolve_right λz=>by
      rw[hnews i z] at h1;injection h1 with h1;subst h1;cases h2
     obtain⟨y1,b',y2,y3⟩:=A.fx i hid b0 h1 h2;exact⟨hν2 _ y1,b',hon i b' y2,y3⟩
   · obtain⟨e1,e2⟩:=hoff i TM
     exact⟨e1,b0,e2▸h1,h2⟩
end
end
section
def kv (e:MapEntry):Value × Value:=(e.key,e.val)
def en2 (p:Int × Int):Value × Value:=(.int .i64 p.1, .int .i64 p.2)
theorem jZ {n:Int} : ∀ {es:List MapEntry} {xs:List (Int × Int)} (i:Nat),es.map kv=xs.map en2 ->
 (∃j,Instr.findNow (.int .i64) (.int .i64 n) es i=some (some (i+j, .int .i64 (uo xs n)))/\j<es.length/\(es[j]?).map (·.key)=some (.int .i64 n)/\ ∀v,iX xs n v=xs.set j (n,v)) \/
 (Instr.findNow (.int .i64) (.int .i64 n) es i=some none/\uo xs n=0/\ ∀v,iX xs n v=xs++ [(n,v)])
 | [],[],i,_=> .inr ⟨rfl,rfl,λ_=>rfl⟩
 | [],_::_,_,h=>by simp at h
 | _::_,[],_,h=>by simp at h
 | e::es,p::xs,i,h=>by
   simp only[AUr,List.cons.injEq] at h;obtain⟨h1,h2⟩:=h;have hk:e.key= .int .i64 p.1:=congrArg Prod.fst h1;have hv:e.val= .int .i64 p.2:=congrArg Prod.snd h1;by_cases hn:p.1=n
   · refine .inl ⟨0, ?_,by simp,by simp[hk,hn],λv=>by simp[iX,hn]⟩
     simp[Instr.findNow,Instr.sameNow,hk,hn,uo,hv]
   · have hn' : ¬n=p.1:=λq=>hn q.symm
     have hb:(n==p.1)=false:=by simpa using hn'
     rcases jZ (i+1) h2 with⟨j,q1,q2,q3,q4⟩ | ⟨q1,q2,q3⟩
     · refine .inl ⟨j+1, ?_,by simpa using q2,by simpa using q3,λv=>by simp[iX,hn,q4]⟩
       simp only[Instr.findNow,Instr.sameNow,hk,if_true,hb,q1,uo,if_neg hn];rw[show i+1+j=i+(j+1) by omega]
     · refine .inr ⟨?_,by simp[uo,hn,q2],λv=>by simp[iX,hn,q3]⟩
       simp only[Instr.findNow,Instr.sameNow,hk,if_true,hb,q1]
theorem ADJ {es:Array MapEntry} {xs:List (Int × Int)} (h:es.toList.map kv=xs.map en2) (j:Nat) (n v:Int) :
 ((es.modify j λe=> {e with key:= .int .i64 n,val:= .int .i64 v}).toList.map kv)=(xs.set j (n,v)).map en2:=by
 rw[Array.toList_modify];have hl:es.toList.length=xs.length:=by simpa using congrArg List.length h
 apply AVK;intro q;have hq:=congrArg (λl=>l[q]?) h;simp only[AV2] at hq ⊢;rw[List.getElem?_modify,AWI];by_cases e:j=q
 · subst e
   by_cases hj:j<xs.length
   · have hj':j<es.toList.length:=by omega
     simp[hj,AUT hj',kv,en2]
   · have hj' : ¬j<es.toList.length:=by omega
     simp[hj];exact Nat.le_of_not_lt hj'
 · simpa[e] using hq
section
variable {P:Program} {Θ:Lz} {S:FuncId->Option FE} {k:Nat} {o:Oper} {U0:Nat->Prop} {ν:Nat->Value} {tm:List AV} {hp:List AB} {w0:St} {w:World} {a:Act} {R:Type} {K:AV->HC->Tree R} {r:R}
theorem oW (hΘ:Θ.ok P=true) {t:TypeId} (h:AEh Θ t=true) : ∃kt vt,P.underlying t=some (.map kt vt)/\P.underlying kt=some (.int .i64)/\ ∀w,(zeroValue vt).run P w= .ok (.int .i64 0) w:=by
 unfold AEh at h;split at h
 · rename_i i hi
   split at h
   · rename_i kt vt hk
     split at h
     · rename_i ka vb hka hvb
       split at h
       · rename_i h1 h2
         obtain⟨_,d,_,hd,_,_,hB,_⟩:=Bs hΘ hi;rw[hk] at hB;obtain⟨_,d1,_,hd1,_,_,hB1,_⟩:=Bs hΘ hka;rw[h1] at hB1;rw[u6 hB1] at hd1;obtain⟨f,d2,hf,_,_,_,_,_,_,z,hz,uO⟩:=Bs hΘ hvb;have hmap:d= .map kt vt:=by
          cases d<;>simp[LM] at hB
          rw[hB.1,hB.2]
         rw[hmap] at hd;refine⟨kt,vt,hd,hd1,λw=> ?_⟩;obtain⟨v1,v2,e1,e2,e3⟩:=Yd (U:=Un (λ_=>False) (λ_=>undef) (λ_=>False)) (t:= .int .i64) (w:=w) (ig h) (NL (U0:=λ_=>False) (ν:=λ_=>undef) (L:=λ_=>False) uO);have e4:v2= []:=by
          cases v2 with
          | nil=>rfl
          | cons _ _=>exact e3.elim
         have e5:v1= [.int .i64 (0:Int)]:=e2;rw[e4,e5] at e1;simp[zeroValue,typeInfo,hf,hz,e1,Qm]
       · cases h
     · cases h
   · cases h
 · cases h
theorem AB6 {L:Nat->Prop} {j:Nat} {v:Value} (h:HY U0 ν L w (.val [.own j]) v):v=ref (ν j):=(show L j/\v=ref (ν j) from val_one h).2
theorem AAI {k:IntKind} (h:ABu k=true):k= .i64:=by cases k<;>first | rfl | cases h
theorem Inv.AJJ (I:Inv U0 ν tm hp w0 a w) {j:Nat} {xs:List (Int × Int)} (hb:hp[j]? =some (.map xs)) : ∃g es c,ν j= .map (some g)/\w0.heap.size<=g/\w.heap[g]? =some (.map es c)/\es.toList.map kv=xs.map en2:=I.mem j _ hb rfl
theorem AAJ (hΘ:Θ.ok P=true) (I:Inv U0 ν tm hp w0 a w) (hU : ∀q,U0 q->q<w0.heap.size) {t:TypeId} {rs:Option Operand} (ho:o.op= .makeMap t rs) (h:(stepT Θ S k tm hp o.dst (.makeMap t rs) K).run=some r):DE P Θ S k o U0 ν tm hp w0 a w K r:=by
 cases rs with
 | some _=>simp only[stepT] at h;cases h
 | none =>
 simp only[stepT] at h;split at h
 · rename_i q hq
   split at h
   · refine⟨_,_,h, ?_⟩
     intro hh next Q hn
     have hrun:(execOp a.eval o).run P w= .ok (.value (.map (some w.heap.size))) (w.alloc (.map #[] 0)):=by
      simp[execOp,ho,run_makeMap]
     unfold Oper.wp;rw[hrun];rw[hq] at hh hn;obtain⟨hg,hb,_⟩:=Qs hh;show next (a.put o.dst _) _
     rw[hq];refine hn (upd ν q (.map (some w.heap.size))) _ _ (I.new hU hg hb (by simp) (λk hk=>Below.heap_alloc _ _ _ hk) (λk hk=> ?_) (I.fr.alloc _) (λm hL=> ?_) _)
     · injection hk with hk
       omega
     · exact⟨⟨w.heap.size,#[],0,Br,I.fr.size,heap_alloc_new w _,rfl⟩,FJ (c:= .own q) ⟨((Eu hg hb).1 q).2 (.inr rfl),by rw[Br];rfl⟩⟩
   · cases h
 · cases h
theorem ADK (hΘ:Θ.ok P=true) (I:Inv U0 ν tm hp w0 a w) {t:TypeId} {x y:Operand} {ok:Bool} (ho:o.op= .lookup t x y ok) (h:(stepT Θ S k tm hp o.dst (.lookup t x y ok) K).run=some r):DE P Θ S k o U0 ν tm hp w0 a w K r:=by
 cases ok with
 | true=>simp only[stepT] at h;cases h
 | false =>
 simp only[stepT] at h;split at h
 · rename_i j kk n hx hy
   split at h
   · rename_i xs hb
     split at h
     · rename_i hc
       obtain⟨hm,hk⟩:=hc;obtain rfl:=AAI hk;obtain⟨kt,vt,ht,hkt,hz⟩:=oW hΘ hm;obtain⟨g,es,c,h1,h2,h3,h4⟩:=I.AJJ hb;have hv:a.eval x= .map (some g):=by
        have:=AB6 (hx▸I.Aa x);rw[this,h1];rfl
       have hn:=G0 (hy▸I.Aa y);refine⟨_,_,h,Ao I (v:= .int .i64 (uo xs n)) ?_ (Jn _ _)⟩;have hck:=MapKept.run_checkKey (P:=P) (w:=w) (k:= .int .i64 n) hkt (by simp[MapKept.IsKey]) es.isEmpty 9999;simp only[execOp,ho,hv,hn];rcases jZ (n:=n) 0 h4 with⟨q,e1,_⟩ | ⟨e1,e2,_⟩
       · have hfk:=MapKept.run_findKey (P:=P) (w:=w) hkt e1
         simp[Instr.lookup,run_underlying ht,MapKept.run_getObj_map h3,hck,hfk,Result.andThen]
       · have hfk:=MapKept.run_findKey (P:=P) (w:=w) hkt e1
         simp[Instr.lookup,run_underlying ht,MapKept.run_getObj_map h3,hck,hfk,hz,Result.andThen,e2]
     · cases h
   · cases h
 · cases h
theorem rG (hΘ:Θ.ok P=true) (I:Inv U0 ν tm hp w0 a w) {t:TypeId} {x y z:Operand} (ho:o.op= .mapUpdate t x y z) (h:(stepT Θ S k tm hp o.dst (.mapUpdate t x y z) K).run=some r):DE P Θ S k o U0 ν tm hp w0 a w K r:=by
 simp only[stepT] at h;split at h
 · rename_i j kk n kk' v hx hy hz hd
   split at h
   · rename_i xs hb
     split at h
     · rename_i hc
       obtain⟨hm,hk,hk'⟩:=hc;obtain rfl:=AAI hk;obtain rfl:=AAI hk';obtain⟨kt,vt,ht,hkt,_⟩:=oW hΘ hm;obtain⟨g,es,c,h1,h2,h3,h4⟩:=I.AJJ hb;have hv:a.eval x= .map (some g):=by
        have:=AB6 (hx▸I.Aa x);rw[this,h1];rfl
       have e1:=G0 (hy▸I.Aa y);have e2:=G0 (hz▸I.Aa z);have hck:=MapKept.run_checkKey (P:=P) (w:=w) (k:= .int .i64 n) hkt (by simp[MapKept.IsKey]) false 9999;have hrun : ∃es' c',(execOp a.eval o).run P w= .ok .skip {w with heap:=w.heap.setIfInBounds g (.map es' c')} /\es'.toList.map kv=(iX xs n v).map en2:=by
        simp only[execOp,ho,hv,e1,e2];rcases jZ (n:=n) 0 h4 with⟨q,f1,f2,f3,f4⟩ | ⟨f1,_,f3⟩
        · have hfk:=MapKept.run_findKey (P:=P) (w:=w) hkt f1
          refine⟨es.modify q λe=> {e with key:= .int .i64 n,val:= .int .i64 v},c, ?_,by rw[f4];exact ADJ h4 q n v⟩;have hq:q<es.size:=(by simpa using f2);have hkey:((es[q]?).map (·.key)).getD (.int .i64 n)= .int .i64 n:=by
           have:es.toList[q]? =es[q]? :=(by simp);rw[<-this,f3];rfl
          have ATS:(match es[q]? with | some e=>e.key | none=>Value.int .i64 n)= .int .i64 n:=by
           rw[<-hkey];cases es[q]? <;>rfl
          have hst:(Instr.keyThatStays (.int .i64 n) (.int .i64 n)).run P w= .ok (.int .i64 n) w:=by
           simp[Instr.keyThatStays,Instr.sameBits]
          simp[Instr.mapUpdate,run_underlying ht,MapKept.run_getObj_map h3,hck,hfk,Result.andThen,hkey,hst,MapKept.run_setObj_map _ h3]
        · have hfk:=MapKept.run_findKey (P:=P) (w:=w) hkt f1
          refine⟨es.push ⟨.int .i64 n, .int .i64 v,c⟩,c+1, ?_,by rw[f3];simp[h4,kv,en2]⟩;simp[Instr.mapUpdate,run_underlying ht,MapKept.run_getObj_map h3,hck,hfk,Result.andThen,MapKept.run_setObj_map _ h3]
       obtain⟨es',c',hrun,h5⟩:=hrun;refine⟨_,_,h, ?_⟩;intro hh next Q hn
       unfold Oper.wp;rw[hrun];refine hn ν undef {w with heap:=w.heap.setIfInBounds g (.map es' c')} ?_;rw[show Qq o.dst hp ⟨none,[(j, .map (iX xs n v))]⟩=hp.set j (.map (iX xs n v)) from rfl];obtain⟨s1,s2⟩:=MapKept.heap_set (o':= .map es' c') h3;refine I.AHy (w':= {w with heap:=w.heap.setIfInBounds g (.map es' c')}) (b:= .map (iX xs n v)) hb rfl rfl (by rw[h1];rfl) (by simp) s2 ⟨I.fr.os,I.fr.tape,I.fr.output,by have:=I.fr.size;simpa using this,λq hq cQ=>(s2 q (by omega)).trans (I.fr.block q hq cQ)⟩ (by intro z;cases z) (λm=> ?_) _ _;exact⟨g,es',c',h1,h2,s1,h5⟩
     · cases h
   · cases h
 · cases h
end
end
section
section
variable {P:Program} {Θ:Lz} {S:FuncId->Option FE} {k:Nat} {o:Oper} {U0:Nat->Prop} {ν:Nat->Value} {L:Nat->Prop} {tm:List AV} {hp:List AB} {w0:St} {w:World} {a:Act} {R:Type} {K:AV->HC->Tree R} {r:R}
theorem NfR.rel {U:Nat->Prop} (hU : ∀q,q<w.heap.size->Un U0 ν L q->U q) : ∀ {fs:List NF} {x:NT fs} {us:List Value},NfR U w fs x us->Cj (DA U0 ν L w) (ncs fs x) us
 | [],x,us,h=>by rw[show us= [] from h];trivial
 | .ty t::l,x,us,h=>by
   obtain⟨v1,v2,rfl,q1,q2⟩:=h;exact(Ii t x.1 (q1.move ⟨AUN _,λ_ _ _=>rfl,λq hq z=>hU q hq z⟩)).app (NfR.rel hU q2)
 | .nil::l,x,us,h=>by
   obtain⟨us',rfl,q⟩:=h;exact⟨rfl,NfR.rel (fs:=l) hU q⟩
theorem AL1 (hS:Gu P S k) (I:Inv U0 ν tm hp w0 a w) (hU : ∀q,U0 q->q<w0.heap.size) {c:Call} {g:FuncId} (hg:c.callee= .value (.func g)) (ho:o.op= .call c) {s:ia} (hs:S g=some (.np s)) {x:TT s.ps} (hx:args hp tm s.ps c.args.toList=some x) {t:Tmp} (hd:o.dst=some t)
 (h:(Tree.nD (s.f k x) λr=>Tree.Mu (r.1=true) (K (.val [.OW]) ⟨none,Jk hp tm c.args.toList⟩) (K (.val [.ptr t 0]) ⟨some (.cells .mine s.e (ncs s.fs r.2)),Jk hp tm c.args.toList⟩)).run=some r):DE P Θ S k o U0 ν tm hp w0 a w K r:=by
 obtain⟨y,hf,h⟩:=Tree.VT h;obtain⟨hb,hk⟩:=hS g _ hs;have hrun:(execOp a.eval o).run P w= .ok (.enter g (c.args.toList.map a.eval).toArray) w:=VY hg ho hb;have hfz:=YX (hp:=hp) (tm:=tm) c.args.toList;obtain⟨ν',I'⟩:=I.KD hU hfz;have hUn : ∀q,Un U0 ν' (lv (Dx (Jk hp tm c.args.toList) hp)) q->q<w.heap.size:=λq hq=>by
  rcases hq with hq | ⟨j,hj,hb⟩
  · exact AVC (hU q hq) I'.fr.size
  · exact(I'.lt hj hb).1
 have call:=hk k (AUN _) x y hf _ w _ hUn (Ta I' (λq _ hq=>hq) (λo' ho'=>C6.frz hfz (λj e t xs hj hb=>YZ ho' hj hb) _ _) ((YY hfz _ _).trans hx));rcases Tree.Oe h with⟨hy,h⟩ | ⟨hy,h⟩
 · refine⟨_,_,h, ?_⟩
   intro hh next Q hn
   unfold Oper.wp;rw[hrun,Oper.upon_enter];refine call.mono λe w' hq=> ?_
   obtain⟨v,rfl,TL,⟨_,rfl⟩ | ⟨hf2,_⟩⟩:=hq
   · show next (a.put o.dst _) w'
     refine hn ν' _ w' ?_;exact I'.go o.dst _ _ TL.size TL.block (λj hj q hq=>(I'.lt hj hq).1) (FJ (c:= .OW) rfl) (I'.fr.step TL)
   · rw[hy] at hf2;cases hf2
 · refine⟨_,_,h, ?_⟩
   intro hh next Q hn
   unfold Oper.wp;rw[hrun,Oper.upon_enter];refine call.mono λe w' hq=> ?_
   obtain⟨v,rfl,TL,⟨hf2,_⟩ | ⟨_,b,us,rfl,hbs,hbb,hnf⟩⟩:=hq
   · exact absurd hf2 hy
   · show next (a.put o.dst _) w'
     rw[hd] at hh hn ⊢;obtain⟨hg,hb',_⟩:=Qs hh;have hg':(Dx (Jk hp tm c.args.toList) hp)[t]? =some .gone:=by
      rcases Gw hfz t with q | ⟨_,_,_,q,_⟩
      · rw[q,hg]
      · rw[hg] at q;cases q
     refine hn (upd ν' t (.pointer (some ⟨b,0,none⟩))) _ w' (I'.new hU hg' hb' TL.size TL.block (λk hk=> ?_) (I'.fr.step TL) (λm hL=> ?_) _)
     · injection hk with hk
       have hk:b=k:=hk;omega
     · obtain⟨hlv,hnt⟩:=Eu hg' hb'
       refine⟨⟨b,us,Br,Mj.new (AVG I'.fr.size hbs),hbb,NfR.rel (λq _ hu=> ?_) hnf⟩,FJ (c:= .ptr t 0) (show DA _ _ _ _ (.ptr t 0) _ from⟨(hlv t).2 (.inr rfl),_,Br,rfl⟩)⟩;rcases hu with hu | ⟨j,hj,iZ⟩
       · exact .inl (.inl hu)
       · rcases(hlv j).1 hj with hj | hj
         · rw[HZ (λz:j=t=>hnt (z▸hj))] at iZ;exact .inl (.inr ⟨j,hj,iZ⟩)
         · subst hj
           rw[Br] at iZ;injection iZ with iZ;exact .inr iZ.symm
end
end
section
section
variable {P:Program} {Θ:Lz} {S:FuncId->Option FE} {k:Nat} {o:Oper} {U0:Nat->Prop} {ν:Nat->Value} {tm:List AV} {hp:List AB} {w0:St} {w:World} {a:Act} {R:Type} {K:AV->HC->Tree R} {r:R}
theorem ABw (hΘ:Θ.ok P=true) (hS:Gu P S k) (I:Inv U0 ν tm hp w0 a w) (hU : ∀q,U0 q->q<w0.heap.size) (h:(stepT Θ S k tm hp o.dst o.op K).run=some r) (hst : ∀t x y,o.op= .store t x y->o.dst=none):DE P Θ S k o U0 ν tm hp w0 a w K r:=by
 cases ho:o.op<;>rw[ho] at h
 case move x=>exact ABv I (.inl ho) (by simpa only[stepT] using h)
 case assign x=>exact ABv I (.inr ho) (by simpa only[stepT] using h)
 case pick c x y=>exact AHi I ho h
 case binOp b t x y u=>exact AEk hΘ I ho h
 case unOp b t x=>exact AHl I ho h
 case nilCheck x=>exact u5 I ho h
 case extract x i=>exact zl I ho h
 case convert s t x=>exact zk hΘ I ho h
 case load t x=>exact AHm hΘ I ho h
 case store t x y=>exact AE5 hΘ I hU ho (hst t x y ho) h
 case fieldAddr s x f=>exact qX hΘ I ho h
 case indexAddr t x y=>exact qY hΘ I ho h
 case index t x y=>exact AEm hΘ I ho h
 case box e x=>exact AKg hΘ I hU ho h
 case alloc e=>exact AE4 hΘ I hU ho h
 case build t ps=>exact AE3 hΘ I ho h
 case buildSlice t n ps=>exact nG hΘ I hU ho h
 case makeSlice t x y=>exact rA hΘ I hU ho h
 case slice t x lo hi mx=>exact ok_slice hΘ I hU ho h
 case makeMap t rs=>exact AAJ hΘ I hU ho h
 case lookup t x y q=>exact ADK hΘ I ho h
 case mapUpdate t x y z=>exact rG hΘ I ho h
 case call c =>
  cases hc:c.callee with
  | value f =>
    cases f with
    | func g =>
      simp only[stepT,hc] at h;split at h
      · rename_i s nm hs
        split at h
        · rename_i x hx
          split at h
          · rename_i hl
            exact AKj hS I hU hc ho hs hx hl h
          · cases h
        · cases h
      · rename_i s hs
        split at h
        · rename_i x hx
          exact AHz hS I hU hc ho hs hx h
        · cases h
      · rename_i s hs
        split at h
        · rename_i x q hx hd
          exact AL1 hS I hU hc ho hs hx hd h
        · cases h
      · rename_i s hs
        split at h
        · rename_i x q hx hd
          exact AKh hS I hU hc ho hs hx hd h
        · cases h
      · cases h
    | tmp _=>simp only[stepT,hc] at h;cases h
    | const _=>simp only[stepT,hc] at h;cases h
    | global _=>simp only[stepT,hc] at h;cases h
  | invoke _ _=>simp only[stepT,hc] at h;cases h
  | builtin b =>
    cases b
    case len=>exact AKc hΘ I hc ho h
    case max=>exact AKd I hc ho h
    case min=>exact AKe I hc ho h
    case append=>exact ADI hΘ I hU hc ho h
    all_goals (simp only[stepT,hc] at h;cases h)
 all_goals (simp only[stepT] at h;cases h)
end
section
variable {R:Type}
noncomputable def TU (Θ:Lz) (S:FuncId->Option FE) (k:Nat) (ops:Array Oper) (l:List Oper):List AV->List AB->(List AV->List AB->Tree R)->Tree R :=
 List.rec (motive:=λ_=>List AV->List AB->(List AV->List AB->Tree R)->Tree R) (λtm hp K=>K tm hp) (λo _ ih tm hp K=>match o.guard with
  | none=>stepT Θ S k tm hp o.dst o.op λx δ=>if hok o.dst hp δ=true then V3 tm o.dst x λF3=>cR o.dst hp δ λCY=>ih F3 CY K else .non
  | some (j,want)=>match (ops[j]?).bind (·.dst) with
    | some t=>match Aa tm (.tmp t) with
      | .val [.ro .bool b]=>Tree.Mu ((b:Bool)=want) (stepT Θ S k tm hp o.dst o.op λx δ=>if hok o.dst hp δ=true then V3 tm o.dst x λF3=>cR o.dst hp δ λCY=>ih F3 CY K else .non) (V3 tm o.dst .un λF3=>ih F3 hp K)
      | .un=>V3 tm o.dst .un λF3=>ih F3 hp K
      | _=> .non
    | none=> .non) l
theorem vq (Θ:Lz) (S:FuncId->Option FE) (k:Nat) (ops:Array Oper) (o:Oper) (rest:List Oper) (tm:List AV) (hp:List AB) (K:List AV->List AB->Tree R):TU Θ S k ops (o::rest) tm hp K=(match o.guard with
 | none=>stepT Θ S k tm hp o.dst o.op λx δ=>if hok o.dst hp δ=true then V3 tm o.dst x λF3=>cR o.dst hp δ λCY=>TU Θ S k ops rest F3 CY K else .non
 | some (j,want)=>match (ops[j]?).bind (·.dst) with
   | some t=>match Aa tm (.tmp t) with
     | .val [.ro .bool b]=>Tree.Mu ((b:Bool)=want) (stepT Θ S k tm hp o.dst o.op λx δ=>if hok o.dst hp δ=true then V3 tm o.dst x λF3=>cR o.dst hp δ λCY=>TU Θ S k ops rest F3 CY K else .non) (V3 tm o.dst .un λF3=>TU Θ S k ops rest F3 hp K)
     | .un=>V3 tm o.dst .un λF3=>TU Θ S k ops rest F3 hp K
     | _=> .non
   | none=> .non):=rfl
end
section
variable {P:Program} {Θ:Lz} {S:FuncId->Option FE} {k:Nat} {o:Oper} {U0:Nat->Prop} {ν:Nat->Value} {tm:List AV} {hp:List AB} {w0:St} {w:World} {a:Act} {R:Type} {r:R} {ops:Array Oper}
theorem XI (I:Inv U0 ν tm hp w0 a w) {j:Nat} {t:Tmp} {b:Bool} (ht:(ops[j]?).bind (·.dst)=some t) (hb:Aa tm (.tmp t)= .val [.ro .bool b]):yielded ops a.tmps j=some b:=by
 have hv:=VU (hb▸I.Aa (.tmp t));have hv:a.tmps.getD t undef= .bool b:=hv;unfold yielded;rw[ht];simp only[AVJ];rw[AUv] at hv;cases hq:a.tmps[t]? with
 | none=>rw[hq] at hv;simp[undef] at hv
 | some v =>
   rw[hq] at hv;have hv:v= .bool b:=hv;subst hv;rfl
def AH2 (want:Bool):AV->Prop
 | .val [.ro .bool b]=> ¬(b:Bool)=want
 | .un=>True
 | _=>False
theorem jH (I:Inv U0 ν tm hp w0 a w) {j:Nat} {want:Bool} {t:Tmp} (hg:o.guard=some (j,want)) (ht:(ops[j]?).bind (·.dst)=some t) (h:AH2 want (Aa tm (.tmp t))) : ¬Region.wanted o (yielded ops a.tmps)=true:=by
 unfold AH2 at h;split at h
 · rename_i b hb
   simpa[Region.wanted,hg,XI I ht hb] using h
 · rename_i hu
   have hv:HY U0 ν (lv hp) w .un (a.eval (.tmp t)):=hu▸I.Aa (.tmp t);have hv:a.tmps.getD t undef=undef:=hv;have hy:yielded ops a.tmps j=none:=by
    unfold yielded;rw[ht];simp only[AVJ];rw[AUv] at hv;cases hq:a.tmps[t]? with
    | none=>rfl
    | some v =>
      rw[hq] at hv;have hv:v=undef:=hv;subst hv;rfl
   simp[Region.wanted,hg,hy]
 · exact h.elim
theorem ql {Q:Exit->Act->World->Prop} (hΘ:Θ.ok P=true) (hS:Gu P S k) {K:List AV->List AB->Tree R} (hK : ∀F3 CY,(K F3 CY).run=some r-> ∀ν' a' w',Inv U0 ν' F3 CY w0 a' w'->Q .normal a' w') (fy : ∀q,U0 q->q<w0.heap.size) :
 ∀(l:List Oper) (tm:List AV) (hp:List AB) (ν:Nat->Value) (a:Act) (w:World),(∀o∈l,∀t x y,o.op= .store t x y->o.dst=none)->(TU Θ S k ops l tm hp K).run=some r->Inv U0 ν tm hp w0 a w->wpList P ops Q l a w
 | [],tm,hp,ν,a,w,_,h,I=>hK tm hp h ν a w I
 | o::rest,tm,hp,ν,a,w,hst,h,I=>by
   have AKm : ∀o∈rest,∀t x y,o.op= .store t x y->o.dst=none:=λo ho=>hst o (AUB _ ho)
   have go:(stepT Θ S k tm hp o.dst o.op λx δ=>if hok o.dst hp δ=true then TU Θ S k ops rest (OX tm o.dst x) (Qq o.dst hp δ) K else .non).run=some r->o.wp P a w (wpList P ops Q rest) Q:=by
    intro h;obtain⟨x,δ,hx,hg⟩:=ABw hΘ hS I fy h (hst o AUC);dsimp only at hx;split at hx
    · rename_i hk
      exact hg hk _ _ λν' v w' I'=>ql hΘ hS hK fy rest _ _ ν' _ w' AKm hx I'
    · cases hx
   unfold wpList;simp only[vq,ABt,uu] at h;split at h
   · rename_i hg
     rw[if_pos (by simp[Region.wanted,hg])];exact .inl (go h)
   · rename_i j want hg
     split at h
     · rename_i t ht
       split at h
       · rename_i b hb
         have hy:=XI I ht hb;rcases Tree.Oe h with⟨hw,h⟩ | ⟨hw,h⟩
         · rw[if_pos (by simp[Region.wanted,hg,hy,hw])]
           exact .inl (go h)
         · rw[if_neg (by simpa[Region.wanted,hg,hy] using hw)]
           exact ql hΘ hS hK fy rest _ _ ν _ w AKm h (I.TP o.dst (x:= .un) (v:=undef) rfl)
       · rename_i hu
         rw[if_neg (jH I hg ht (by rw[hu];trivial))];exact ql hΘ hS hK fy rest _ _ ν _ w AKm h (I.TP o.dst (x:= .un) (v:=undef) rfl)
       · cases h
     · cases h
end
end
section
section
variable {Θ:Lz} {S:FuncId->Option FE} {k:Nat} {tm F3:List AV} {hp CY:List AB} {R:Type}
noncomputable def step (Θ:Lz) (S:FuncId->Option FE) (k:Nat) (tm:List AV) (hp:List AB) (d:Option Tmp) (o:Op):Option (AV × HC):=(stepT Θ S k tm hp d o (λx δ=> .done (x,δ))).run
def Fit (x:Tree R) (y:Tree (AV × HC)) (K:AV->HC->Tree R):Prop:=x.run=y.run.bind λp=>(K p.1 p.2).run
theorem Fit.same (K:AV->HC->Tree R) (x:AV) (δ:HC):Fit (K x δ) (.done (x,δ)) K:=rfl
theorem Fit.non (K:AV->HC->Tree R):Fit .non .non K:=rfl
theorem Fit.Mu {K:AV->HC->Tree R} {c:Prop} [d:Decidable c] {x y:Tree R} {x' y':Tree (AV × HC)} (h1:Fit x x' K) (h2:Fit y y' K):Fit (.Mu c x y) (.Mu c x' y') K:=by
 show(if c then x.run else y.run)=(if c then x'.run else y'.run).bind _;split
 · exact h1
 · exact h2
theorem Fit.nD {A:Type} {K:AV->HC->Tree R} {x:Option A} {f:A->Tree R} {g:A->Tree (AV × HC)} (h : ∀a,Fit (f a) (g a) K):Fit (.nD x f) (.nD x g) K:=by
 show x.bind _=(x.bind _).bind _;cases x with
 | none=>rfl
 | some a=>exact h a
theorem zn (d:Option Tmp) (o:Op) (K:AV->HC->Tree R):(stepT Θ S k tm hp d o K).run=(step Θ S k tm hp d o).bind (λp=>(K p.1 p.2).run):=by
 show Fit (stepT Θ S k tm hp d o K) (stepT Θ S k tm hp d o λx δ=> .done (x,δ)) K;cases o<;>simp only[stepT,AEg]<;>(try unfold zh)<;>(try unfold ij)<;>(try unfold qV)<;>(try unfold zj)<;>(try unfold iq)<;>(repeat' (first | exact Fit.same _ _ _ | exact Fit.non _ | apply Fit.Mu | (refine Fit.nD λa=> ?_) | split))
def reads:Op->List Operand
 | .move x | .assign x | .unOp _ _ x | .convert _ _ x | .extract x _ | .load _ x | .fieldAddr _ x _ | .box _ x | .nilCheck x=> [x]
 | .pick c x y=> [c,x,y]
 | .mapUpdate _ x y z=> [x,y,z]
 | .binOp _ _ x y _ | .lookup _ x y _ | .store _ x y | .indexAddr _ x y | .index _ x y | .makeSlice _ x y=> [x,y]
 | .slice _ x lo hi mx=>x::(lo.toList++hi.toList++mx.toList)
 | .build _ ps | .buildSlice _ _ ps=>ps.toList.map (·.2)
 | .call c=>c.args.toList
 | _=> []
def idC:AC->List Nat
 | .own j | .ptr j _ | .zH j _ _ _ | .Jm j=> [j]
 | _=> []
def idV:AV->List Nat
 | .val cs=>cs.flatMap idC
 | _=> []
theorem rH {j:Nat} {e:TypeId} {t:Ty} (h:hp[j]? =CY[j]?):ownRow hp j e t=ownRow CY j e t:=by unfold ownRow;rw[h]
def DV (hp CY:List AB) (cs:List AC):Prop:= ∀j,AC.own j∈cs->hp[j]? =CY[j]?
theorem DV.Fk {cs:List AC} (h:DV hp CY cs) (t:Ty):Fk hp t cs=Fk CY t cs/\ ∀x rest,Fk hp t cs=some (x,rest)-> ∀c∈rest,c∈cs:=VX λj _ _ hj=>rH (h j hj)
theorem DV.Mv : ∀ {cs:List AC},DV hp CY cs->Mv hp cs=Mv CY cs
 | [],_=>rfl
 | c::cs,h=>by
   have ih:=DV.Mv (cs:=cs) λj hj=>h j (AUB _ hj)
   cases c with
   | own j=>simp only[Ic.Mv,h j AUC,ih]
   | _=>simp only[Ic.Mv,ih]
theorem DV.rows {t:Ty} : ∀ {n:Nat} {cs:List AC},DV hp CY cs->rows hp t n cs=rows CY t n cs
 | 0,[],_=>rfl
 | 0,_::_,_=>rfl
 | n+1,cs,h=>by
   obtain⟨h1,h2⟩:=h.Fk t;simp only[Ic.rows,<-h1];cases hx:Ic.Fk hp t cs with
   | none=>rfl
   | some y =>
     obtain⟨x,cs'⟩:=y;dsimp only;rw[DV.rows (cs:=cs') λj hj=>h j (h2 x cs' hx _ hj)]
theorem DV.sub {cs cs':List AC} (h:DV hp CY cs) (hs : ∀c∈cs',c∈cs):DV hp CY cs':=λj hj=>h j (hs _ hj)
theorem DV.rd {c:AC} (h:DV hp CY [c]) (e:TypeId) (t:Ty):YN hp e t c=YN CY e t c:=by unfold YN;rw[(h.Fk _).1]
theorem DV.any {c:AC} (h:DV hp CY [c]) (e:TypeId) (t:Ty):oG hp e t c=oG CY e t c:=by
 unfold oG;cases c with
 | own j=>simp only[h j AUC,h.rd]
 | _=>exact h.rd e t
theorem DV.grow {c:AC} (h:DV hp CY [c]) (e:TypeId) (t:Ty):Og hp e t c=Og CY e t c:=by
 cases c with
 | own j=>simp only[Og,h j AUC]
 | _=>rfl
theorem Va {x:AV} (h : ∀j∈idV x,hp[j]? =CY[j]?):DV hp CY (cellsOf x):=by
 intro j hj;cases x with
 | val cs=>exact h j (AVm.2 ⟨_,hj,by simp[idC]⟩)
 | _=>cases hj
theorem Qz : ∀ {ps:List Ty} {os:List Operand},(∀x∈os,Aa tm x=Aa F3 x)->(∀x∈os,DV hp CY (cellsOf (Aa tm x)))->args hp tm ps os=args CY F3 ps os
 | [],[],_,_=>rfl
 | t::ts,o::os,h,h2=>by
   have ho:=h2 o AUC;simp only[args,<-h o AUC,Qz (λx hx=>h x (AUB _ hx)) (λx hx=>h2 x (AUB _ hx))];cases hv:Aa tm o with
   | val cs =>
     rw[hv] at ho;dsimp only;rw[(DV.Fk (cs:=cs) ho t).1]
   | _=>rfl
 | [],_::_,_,_=>rfl
 | _::_,[],_,_=>rfl
theorem Oj : ∀ {os:List Operand},(∀x∈os,Aa tm x=Aa F3 x)->(∀x∈os,DV hp CY (cellsOf (Aa tm x)))->Jk hp tm os=Jk CY F3 os
 | [],_,_=>rfl
 | o::os,h,h2=>by
   simp only[Jk,<-h o AUC,(h2 o AUC).Mv,Oj (λx hx=>h x (AUB _ hx)) (λx hx=>h2 x (AUB _ hx))]
theorem vr {place:Nat->Option (Nat × Nat)} : ∀ {l:List (Nat × AV)} {cs out:List AC},Of place cs l=some out-> ∀c∈out,c∈cs\/ ∃p∈l,c∈cellsOf p.2
 | [],cs,out,h,c,hc=>by
   simp only[Of] at h;injection h with h;subst h;exact .inl hc
 | (i,v)::l,cs,out,h,c,hc=>by
   cases v with
   | val xs =>
     simp only[Of] at h;split at h
     · split at h
       · rcases vr h c hc with q | ⟨p,q1,q2⟩
         · rcases AUj.1 q with q | q
           · rcases AUj.1 q with q | q
             · exact .inl (AWJ q)
             · exact .inr ⟨_,AUC,q⟩
           · exact .inl (AWK q)
         · exact .inr ⟨p,AUB _ q1,q2⟩
       · cases h
     · cases h
   | _=>simp[Of] at h
theorem AAK (d:Option Tmp) (o:Op) (K:AV->HC->Tree R) (cQ : ∀c g s nm,o= .call c->c.callee= .value (.func g)->S g≠some (.io s nm)) (h1 : ∀x∈reads o,Aa tm x=Aa F3 x) (h2 : ∀x∈reads o,∀j∈idV (Aa tm x),hp[j]? =CY[j]?):stepT Θ S k tm hp d o K=stepT Θ S k F3 CY d o K:=by
 cases o
 case move x=>simp only[stepT,h1 x (by simp[reads])]
 case assign x=>simp only[stepT,h1 x (by simp[reads])]
 case pick c x y=>simp only[stepT,h1 x (by simp[reads]),h1 y (by simp[reads]),h1 c (by simp[reads])]
 case binOp b t x y u=>simp only[stepT,h1 x (by simp[reads]),h1 y (by simp[reads])]
 case unOp b t x=>simp only[stepT,h1 x (by simp[reads])]
 case nilCheck x=>simp only[stepT,h1 x (by simp[reads])]
 case extract x i=>simp only[stepT,h1 x (by simp[reads])]
 case convert s t x=>simp only[stepT,h1 x (by simp[reads])]
 case load t x =>
  have e:=h1 x (by simp[reads]);have q:=h2 x (by simp[reads]);simp only[stepT,<-e];split
  · rename_i j o i hx hi
    rw[hx] at q;rw[q j (by simp[idV,idC])]
  · rfl
  · rename_i j i o sz z hx hi
    rw[hx] at q;rw[q j (by simp[idV,idC])]
  · rfl
 case store t x y =>
  have e:=h1 x (by simp[reads]);have e2:=h1 y (by simp[reads]);have q:=h2 x (by simp[reads]);have q2:=Va (h2 y (by simp[reads]));simp only[stepT,<-e,<-e2];split
  · rename_i j o xs i hx hy hi
    rw[hx] at q;rw[q j (by simp[idV,idC])]
  · rename_i j i sz ys z hx hy hi
    rw[hx] at q;rw[hy] at q2;have q2:DV hp CY ys:=q2;simp only[q j (by simp[idV,idC]),q2.Mv,(q2.Fk _).1]
  · rename_i j ys z hx hy hi
    rw[hx] at q;rw[hy] at q2;have q2:DV hp CY ys:=q2;simp only[q j (by simp[idV,idC]),q2.Mv,q2.rows]
  · rfl
 case fieldAddr s x f=>simp only[stepT,h1 x (by simp[reads])]
 case indexAddr t x y =>
  have q:=h2 x (by simp[reads]);have e:=h1 x (by simp[reads]);have e2:=h1 y (by simp[reads]);simp only[stepT,<-e,<-e2];split
  · rfl
  · rename_i j kk i z hx hy hi
    rw[hx] at q;simp only[q j (by simp[idV,idC])]
  · rename_i j kk i z hx hy hi
    rw[hx] at q;simp only[q j (by simp[idV,idC])]
  · rfl
 case makeMap t rs=>cases rs<;>simp only[stepT]
 case lookup t x y q =>
  have q1:=h2 x (by simp[reads]);have e1:=h1 x (by simp[reads]);have e2:=h1 y (by simp[reads]);cases q with
  | true=>simp only[stepT]
  | false =>
  simp only[stepT,<-e1,<-e2];split
  · rename_i j kk n hx hy
    rw[hx] at q1;rw[q1 j (by simp[idV,idC])]
  · rfl
 case mapUpdate t x y z =>
  have q1:=h2 x (by simp[reads]);have e1:=h1 x (by simp[reads]);have e2:=h1 y (by simp[reads]);have e3:=h1 z (by simp[reads]);simp only[stepT,<-e1,<-e2,<-e3];split
  · rename_i j kk n kk' v hx hy hz
    rw[hx] at q1;rw[q1 j (by simp[idV,idC])]
  · rfl
 case alloc e =>
  simp only[stepT];split
  · rename_i i t hi
    by_cases hn:LN i.zero=true
    · have q:DV hp CY i.zero:=λj hj=>absurd hj (LZ hn)
      simp only[q.rows,q.Mv]
    · simp[hn]
  · rfl
 case box e x =>
  have e1:=h1 x (by simp[reads]);have q:=Va (h2 x (by simp[reads]));simp only[stepT,<-e1];split
  · rename_i cs t hx
    rw[hx] at q;have q:DV hp CY cs:=q;simp only[q.rows,q.Mv]
  · rfl
 case index t x y=>simp only[stepT,h1 x (by simp[reads]),h1 y (by simp[reads])]
 case build t ps =>
  have e:(ps.toList.map λp=>(p.1,Aa tm p.2))=ps.toList.map λp=>(p.1,Aa F3 p.2):=AVE λp hp=>by rw[h1 p.2 (AUx.2 ⟨p,hp,rfl⟩)]
  simp only[stepT,e]
 case buildSlice t n ps =>
  have e:(ps.toList.map λp=>(p.1,Aa tm p.2))=ps.toList.map λp=>(p.1,Aa F3 p.2):=AVE λp hp=>by rw[h1 p.2 (AUx.2 ⟨p,hp,rfl⟩)]
  simp only[stepT,<-e];split
  · split
    · split
      · split
        · split
          · rename_i z hz ty hty hc
            split
            · rename_i cs q hf
              have hs:DV hp CY cs:=λj hj=>by
               rcases vr hf _ hj with q | ⟨p,q1,q2⟩
               · obtain⟨_,_,q⟩:=AVm.1 q
                 exact absurd q (LZ hc.2.2)
               · obtain⟨p2,Mw,rfl⟩:=AUx.1 q1
                 exact Va (h2 p2.2 (AUx.2 ⟨p2,Mw,rfl⟩)) j q2
              simp only[hs.rows,hs.Mv]
            · rfl
          · rfl
        · rfl
      · rfl
    · rfl
  · rfl
 case makeSlice t x y=>simp only[stepT,h1 x (by simp[reads]),h1 y (by simp[reads])]
 case slice t x lo hi mx =>
  have e:=h1 x (by simp[reads]);have q:=Va (h2 x (by simp[reads]));have el:fu tm lo=fu F3 lo:=by
   cases lo with
   | none=>rfl
   | some l=>simp only[fu,h1 l (by simp[reads])]
  have eh:fu tm hi=fu F3 hi:=by
   cases hi with
   | none=>rfl
   | some l=>simp only[fu,h1 l (by simp[reads])]
  simp only[stepT,<-e,<-el,<-eh];split
  · split
    · rename_i e' c l h hk hx hl hh
      rw[hx] at q;have q:DV hp CY [c]:=q;simp only[q.rd,q.Mv]
    · rfl
    · rfl
  · rfl
 case call c =>
  have hs : ∀x∈c.args.toList,DV hp CY (cellsOf (Aa tm x)):=λx hx=>Va (h2 x hx)
  simp only[stepT];split
  · rename_i g hg
    split
    · rename_i s nm hsx
      exact absurd hsx (cQ c g s nm rfl hg)
    · rename_i s hsx
      rw[Qz (tm:=tm) (F3:=F3) (os:=c.args.toList) (λx hx=>h1 x hx) hs,Oj (tm:=tm) (F3:=F3) (os:=c.args.toList) (λx hx=>h1 x hx) hs]
    · rename_i s hsx
      rw[Qz (tm:=tm) (F3:=F3) (os:=c.args.toList) (λx hx=>h1 x hx) hs,Oj (tm:=tm) (F3:=F3) (os:=c.args.toList) (λx hx=>h1 x hx) hs]
    · rename_i s hsx
      rw[Qz (tm:=tm) (F3:=F3) (os:=c.args.toList) (λx hx=>h1 x hx) hs,Oj (tm:=tm) (F3:=F3) (os:=c.args.toList) (λx hx=>h1 x hx) hs]
    · rfl
  · split
    · rename_i x t hx ht
      have hm:x∈c.args.toList:=(by simp[hx]);have q:=h2 x hm;simp only[<-h1 x hm];split
      · rfl
      · rfl
      · rename_i j i hv hi
        rw[hv] at q;simp only[q j (by simp[idV,idC])]
      · rfl
      · rfl
    · rfl
  · split
    · rename_i x y hx
      rw[h1 x (by simp[reads,hx]),h1 y (by simp[reads,hx])]
    · rfl
  · split
    · rename_i x y hx
      rw[h1 x (by simp[reads,hx]),h1 y (by simp[reads,hx])]
    · rfl
  · split
    · rename_i x y t t2 q hx ht
      have hmx:x∈c.args.toList:=(by simp[hx]);have hmy:y∈c.args.toList:=(by simp[hx]);have qx:=hs x hmx;have qy:=hs y hmy;simp only[<-h1 x hmx,<-h1 y hmy];split
      · split
        · split
          · split
            · split
              · split
                · split
                  · rename_i cx cy hvx hvy
                    rw[hvx] at qx;rw[hvy] at qy;have qx:DV hp CY [cx]:=qx;have qy:DV hp CY [cy]:=qy;simp only[qx.grow,qy.any]
                  · rfl
                · rfl
              · rfl
            · rfl
          · rfl
        · rfl
      · rfl
    · rfl
  · rfl
 all_goals rfl
end
section
variable {α:Type} (n:Nat) (v:Nat->Option α) (b:α)
def lw (D:Nat->Bool):Nat->α
 | 0=>b
 | m+1=>match D m,v m with
   | true,some x=>x
   | _,_=>lw D m
theorem QC {D D':Nat->Bool} : ∀ {n:Nat},(∀m,m<n->v m≠none->D m=D' m)->lw v b D n=lw v b D' n
 | 0,_=>rfl
 | m+1,h=>by
   have ih:lw v b D m=lw v b D' m:=QC λj hj=>h j (by omega)
   unfold lw;cases hv:v m with
   | none=>cases D m<;>cases D' m<;>exact ih
   | some x=>rw[h m (by omega) (by simp[hv]),ih]
theorem YS {D:Nat->Bool} : ∀ {n i:Nat},i<=n->(∀m,i<=m->m<n->v m≠none->D m=false)->lw v b D n=lw v b D i
 | 0,i,hi,_=>by rw[show i=0 by omega]
 | n+1,i,hi,h=>by
   rcases AUq i (n+1) with hlt | hge
   · have ih:=YS (n:=n) (i:=i) (by omega) (λm h1 h2=>h m h1 (by omega))
     rw[<-ih];show(match D n,v n with
      | true,some x=>x
      | _,_=>lw v b D n)=lw v b D n
     cases hv:v n with
     | none=>cases D n<;>rfl
     | some x=>rw[h n (by omega) (by omega) (by simp[hv])]
   · rw[show i=n+1 by omega]
theorem AJK {D:Nat->Bool} {i:Nat} (hi:i<n) (hD:D i=false) (h : ∀j,j<n->j≠i->v j≠none->(D j=decide (j<i))):lw v b D n=lw v b (λj=>decide (j<i)) i:=by
 rw[YS (i:=i) v b (by omega) (λm h1 h2 h3=>by
  by_cases hm:m=i
  · rw[hm];exact hD
  · rw[h m h2 hm h3];exact decide_eq_false (by omega))]
 exact QC v b λm hm hv=>h m (by omega) (by omega) hv
theorem AB7 {D:Nat->Bool} {i:Nat} {x:α} (hi:i<n) (hv:v i=some x) (hD:D i=true) (h : ∀j,j<n->i<j->v j≠none->D j=false):lw v b D n=x:=by
 rw[YS (i:=i+1) v b (by omega) (λm h1 h2 h3=>h m h2 (by omega) h3)];simp only[lw,hD,hv]
theorem vu {D:Nat->Bool} {i:Nat} (hv:v i=none):lw v b (λj=>if j=i then true else D j) n=lw v b D n :=
 QC v b λm _ hm=>by
  have:m≠i:=λq=>hm (q▸hv)
  simp[this]
end
end
section
def tmpsOf (ops:Array Oper) (o:Oper):List Tmp :=
 (reads o.op).filterMap (λ| .tmp t=>some t | _=>none)++o.dst.toList++(match o.guard with
   | some (j,_)=>((ops[j]?).bind (·.dst)).toList
   | none=> [])
def needs (ops:Array Oper) (i:Nat):List Nat:=match ops[i]? with
 | some o=>Qo .any o
 | none=> []
def Qt (ops:Array Oper) (B:List Nat):Bool:=(List.range ops.size).all λd=>(decide (B.getD d 0<2^d)&&(needs ops d).all (λq=>decide (q<d)))&&(List.range d).all λi=> !(B.getD d 0).testBit i || (needs ops d).any λq=>q==i || (decide (q<d)&&(B.getD q 0).testBit i)
def vG (B:List Nat) (i j:Nat):Bool:=if j<i then(B.getD i 0).testBit j else(B.getD j 0).testBit i
def jG (ops:Array Oper) (B:List Nat):Bool:=(List.range ops.size).all λi=>match ops[i]? with
 | some o=>(List.range ops.size).all λj=>j==i || vG B i j || (match (ops[j]?).bind (·.dst) with
   | some t=> !(tmpsOf ops o).contains t
   | none=>true)
 | none=>true
def AKX (ops:Array Oper) (B:List Nat):Bool:=Qt ops B&&jG ops B
def uP (d:Option Tmp) (δ:HC):List Nat:=(match δ.nw with
 | some _=>d.toList
 | none=> [])++δ.ch.map (·.1)
def uQ:List (Nat × AB)->Nat->Option AB
 | [],_=>none
 | (j,b)::l,q=>if j=q then some b else uQ l q
def wrB (d:Option Tmp) (q:Nat) (δ:HC):Option AB:=match δ.nw,d with
 | some b,some t=>if t=q then some b else uQ δ.ch q
 | _,_=>uQ δ.ch q
def fts (tm:List AV) (o:Oper) (δ:HC):List Nat:=(reads o.op).flatMap (λx=>idV (Aa tm x))++uP o.dst δ
def allI {A:Type} (f:A->Nat->Bool):Nat->List A->Bool
 | _,[]=>true
 | j,a::l=>f a j&&allI f (j+1) l
theorem oX {A:Type} (f:A->Nat->Bool) : ∀(l:List A) (j:Nat),allI f j l=(l.zipIdx j).all λp=>f p.1 p.2
 | [],_=>rfl
 | a::l,j=>by simp only[allI,List.zipIdx_cons,AWa,oX f l (j+1)]
theorem AHr {A:Type} (f:A->Nat->Bool) (l:List A):allI f 0 l=l.zipIdx.all λp=>f p.1 p.2:=oX f l 0
section
variable {R:Type}
noncomputable def XJ (Θ:Lz) (S:FuncId->Option FE) (k:Nat) (ops:Array Oper) (B:List Nat) (l:List Oper):Nat->List (List Nat × List Nat)->List AV->List AB->(List AV->List AB->Tree R)->Tree R :=
 List.rec (motive:=λ_=>Nat->List (List Nat × List Nat)->List AV->List AB->(List AV->List AB->Tree R)->Tree R) (λ_ _ tm hp K=>K tm hp) (λo _ ih i rec tm hp K =>
  let go:=stepT Θ S k tm hp o.dst o.op λx δ=>fNs (fts tm o δ) λfa=>fNs (uP o.dst δ) λwa=>if(hok o.dst hp δ&&(allI (λp j=>(B.getD i 0).testBit j || (p.2.all (λq=> !fa.contains q)&&wa.all (λq=> !p.1.contains q))) 0 rec))=true then YM rec (fa,wa) λjc=>V3 tm o.dst x λF3=>cR o.dst hp δ λCY=>ih (i+1) jc F3 CY K else .non
  match o.guard with
  | none=>go
  | some (j,want)=>match (ops[j]?).bind (·.dst) with
    | some t=>match Aa tm (.tmp t) with
      | .val [.ro .bool b]=>Tree.Mu ((b:Bool)=want) go (YM rec ([],[]) λjc=>V3 tm o.dst .un λF3=>ih (i+1) jc F3 hp K)
      | .un=>YM rec ([],[]) λjc=>V3 tm o.dst .un λF3=>ih (i+1) jc F3 hp K
      | _=> .non
    | none=> .non) l
theorem vH (Θ:Lz) (S:FuncId->Option FE) (k:Nat) (ops:Array Oper) (B:List Nat) (o:Oper) (rest:List Oper) (i:Nat) (rec:List (List Nat × List Nat)) (tm:List AV) (hp:List AB) (K:List AV->List AB->Tree R):XJ Θ S k ops B (o::rest) i rec tm hp K=(
 let go:=stepT Θ S k tm hp o.dst o.op λx δ=>fNs (fts tm o δ) λfa=>fNs (uP o.dst δ) λwa=>if(hok o.dst hp δ&&(allI (λp j=>(B.getD i 0).testBit j || (p.2.all (λq=> !fa.contains q)&&wa.all (λq=> !p.1.contains q))) 0 rec))=true then YM rec (fa,wa) λjc=>V3 tm o.dst x λF3=>cR o.dst hp δ λCY=>XJ Θ S k ops B rest (i+1) jc F3 CY K else .non
 match o.guard with
 | none=>go
 | some (j,want)=>match (ops[j]?).bind (·.dst) with
   | some t=>match Aa tm (.tmp t) with
     | .val [.ro .bool b]=>Tree.Mu ((b:Bool)=want) go (YM rec ([],[]) λjc=>V3 tm o.dst .un λF3=>XJ Θ S k ops B rest (i+1) jc F3 hp K)
     | .un=>YM rec ([],[]) λjc=>V3 tm o.dst .un λF3=>XJ Θ S k ops B rest (i+1) jc F3 hp K
     | _=> .non
   | none=> .non):=rfl
end
structure Out where
 x:AV
 δ:HC
 ft:List Nat
def qg (Θ:Lz) (S:FuncId->Option FE) (k:Nat) (ops:Array Oper) (tm:List AV) (hp:List AB) (o:Oper) (u:Out):Prop :=
 (step Θ S k tm hp o.dst o.op=some (u.x,u.δ)/\hok o.dst hp u.δ=true/\u.ft=fts tm o u.δ/\(o.guard=none\/ ∃j want t b,o.guard=some (j,want)/\(ops[j]?).bind (·.dst)=some t/\Aa tm (.tmp t)= .val [.ro .bool b]/\(b:Bool)=want)) \/
 (u.x= .un/\u.δ=H0/\u.ft= []/\ ∃j want t,o.guard=some (j,want)/\(ops[j]?).bind (·.dst)=some t/\AH2 want (Aa tm (.tmp t)))
section
variable (ops:Array Oper) (us:Nat->Out) (KT:List AV) (He:List AB)
def LP (m:Nat):Option Tmp:=(ops[m]?).bind (·.dst)
def wt (t m:Nat):Option AV:=if LP ops m=some t then some (us m).x else none
def wh (q m:Nat):Option AB:=wrB (LP ops m) q (us m).δ
def V4 (D:Nat->Bool) (n:Nat):List AV:=(List.range KT.length).map λt=>lw (wt ops us t) (KT.getD t .GZ) D n
def V6 (D:Nat->Bool) (n:Nat):List AB:=(List.range He.length).map λq=>lw (wh ops us q) (He.getD q .gone) D n
end
section
variable {ops:Array Oper} {us:Nat->Out} {KT:List AV} {He:List AB}
theorem Q0 {D:Nat->Bool} {n t:Nat} :(V4 ops us KT D n)[t]? =if t<KT.length then some (lw (wt ops us t) (KT.getD t .GZ) D n) else none:=by
 unfold V4;rw[AV2];by_cases h:t<KT.length
 · rw[AWU h,if_pos h];rfl
 · rw[AUm (by simpa using h),if_neg h];rfl
theorem Q1 {D:Nat->Bool} {n t:Nat} :(V6 ops us He D n)[t]? =if t<He.length then some (lw (wh ops us t) (He.getD t .gone) D n) else none:=by
 unfold V6;rw[AV2];by_cases h:t<He.length
 · rw[AWU h,if_pos h];rfl
 · rw[AUm (by simpa using h),if_neg h];rfl
theorem vM {D:Nat->Bool} :V4 ops us KT D 0=KT:=by
 apply AVK;intro t;rw[Q0];by_cases h:t<KT.length
 · rw[if_pos h];simp[lw,h]
 · rw[if_neg h,AUm (by omega)]
theorem vN {D:Nat->Bool} :V6 ops us He D 0=He:=by
 apply AVK;intro t;rw[Q1];by_cases h:t<He.length
 · rw[if_pos h];simp[lw,h]
 · rw[if_neg h,AUm (by omega)]
theorem Yi {hp:List AB} {rq:Lq} : ∀ {fs:List FK} {cs:List AC} {x y:FT fs} {b:Nat},LO hp fs cs=some x->(∀j∈Ih fs cs,j∈(ED hp rq fs y cs b).2.map (·.1))/\ ∀i,i<F0 fs->b+i∈(ED hp rq fs y cs b).2.map (·.1)
 | [],[],x,y,b,h=>⟨λj hj=>by simp[Ih] at hj,λi hi=>by simp[F0] at hi⟩
 | [],_::_,x,y,b,h=>by simp[LO] at h
 | .ty t::l,cs,x,y,b,h=>by
   simp only[LO] at h;split at h
   · split at h
     · rename_i x1 cs' hy
       split at h
       · rename_i ys hys
         obtain⟨rfl,_⟩:=L3 hy;exact Yi (y:=y.2) hys
       · cases h
     · cases h
   · cases h
 | .row kp e t::l,[],x,y,b,h=>by cases kp<;>simp[LO] at h
 | .row true e t::l,c::cs,x,y,b,h=>by
   cases c with
   | own j =>
     simp only[LO] at h;split at h
     · rename_i lq e' t' xs hb
       split at h
       · rename_i q
         obtain⟨rfl,rfl⟩:=q;split at h
         · rename_i ys hys
           obtain⟨q1,q2⟩:=Yi (rq:=rq) (y:=y.2) (b:=b) hys;have e3:(ED hp rq (.row true e' t'::l) y (.own j::cs) b).2=(j, .row lq e' t' y.1)::(ED hp rq l y.2 cs b).2:=(by simp only[ED,hb]);rw[e3];refine⟨λi hi=> ?_,λi hi=>AUB _ (q2 i hi)⟩;rcases AUH.1 hi with rfl | hi
           · exact AUC
           · exact AUB _ (q1 i hi)
         · cases h
       · cases h
     · cases h
   | _=>simp[LO] at h
 | .row false e t::l,c::cs,x,y,b,h=>by
   have key : ∀ {ys:FT l},LO hp l cs=some ys-> ∀(ids:List Nat) (E:List (Nat × AB)),(∀j∈ids,j∈E.map (·.1)\/j∈Ih l cs)->(b∈E.map (·.1))->(∀j∈ids,j∈(E++(ED hp rq l y.2 cs (b+1)).2).map (·.1))/\ ∀i,i<F0 l+1->b+i∈(E++(ED hp rq l y.2 cs (b+1)).2).map (·.1):=by
    intro ys hys ids E hE hb;obtain⟨q1,q2⟩:=Yi (rq:=rq) (y:=y.2) (b:=b+1) hys;refine⟨λj hj=> ?_,λi hi=> ?_⟩
    · rw[AVZ,AUj]
      exact(hE j hj).imp id (q1 j)
    · rw[AVZ,AUj]
      rcases AV9 i with h0 | h0
      · subst h0;exact .inl hb
      · have:=q2 (i-1) (by omega)
        rw[show b+1+(i-1)=b+i by omega] at this;exact .inr this
   cases c with
   | own j =>
     have fin : ∀ {lq:Lq} {e':TypeId} {t':Ty} {xs:List (T t')},(if h:e'=e/\t'=t then(match LO hp l cs with
      | some y=>h.2▸some (xs,y)
      | none=>none) else none)=some x->(∀i∈j::Ih l cs,i∈((b,AB.row rq e t y.1)::(j,AB.used)::(ED hp rq l y.2 cs (b+1)).2).map (·.1))/\ ∀i,i<F0 l+1->b+i∈((b,AB.row rq e t y.1)::(j,AB.used)::(ED hp rq l y.2 cs (b+1)).2).map (·.1):=by
      intro lq e' t' xs h;split at h
      · rename_i q
        obtain⟨rfl,rfl⟩:=q;split at h
        · rename_i ys hys
          exact key hys (j::Ih l cs) [(b,AB.row rq e' t' y.1),(j,AB.used)] (λi hi=>by
           rcases AUH.1 hi with rfl | hi
           · exact .inl (by simp)
           · exact .inr hi) (by simp)
        · cases h
      · cases h
     simp only[LO] at h;split at h
     · exact fin (lq:= .mine) h
     · exact fin (lq:= .mine) h
     · cases h
   | CA =>
     simp only[LO] at h;split at h
     · rename_i ys hys
       exact key hys (Ih l cs) [(b,AB.row rq e t y.1)] (λi hi=> .inr hi) (by simp)
     · cases h
   | _=>simp[LO] at h
theorem Yj {hp:List AB} {tm:List AV} {rq:Lq} : ∀ {ps:List PK} {os:List Operand} {x:PT ps} {y:ET ps} {b:Nat},Cm hp tm ps os=some x->(∀j∈Eh hp tm ps os,j∈(F2 hp tm rq ps y os b).map (·.1))/\ ∀i,i<LW ps->b+i∈(F2 hp tm rq ps y os b).map (·.1)
 | [],[],x,y,b,h=>⟨λj hj=>by simp[Eh] at hj,λi hi=>by simp[LW] at hi⟩
 | [],_::_,x,y,b,h=>by simp[Cm] at h
 | .ty _::_,[],x,y,b,h=>by simp[Cm] at h
 | .st _ _::_,[],x,y,b,h=>by simp[Cm] at h
 | .Ml _ _::_,[],x,y,b,h=>by simp[Cm] at h
 | .ty t::ts,o::os,x,y,b,h=>by
   simp only[Cm] at h;split at h
   · split at h
     · split at h
       · rename_i ys hys
         exact Yj (ps:=ts) (os:=os) (y:=y) hys
       · cases h
     · cases h
   · cases h
 | .st e fs::ts,o::os,x,y,b,h=>by
   simp only[Cm] at h;split at h
   · rename_i j hc
     split at h
     · rename_i lq e' cs hb
       split at h
       · rename_i he
         subst he;split at h
         · rename_i x1 hx1
           split at h
           · rename_i ys hys
             obtain⟨q1,q2⟩:=Yi (rq:=rq) (y:=y.1) (b:=b) hx1;obtain⟨z1,z2⟩:=Yj (rq:=rq) (ps:=ts) (os:=os) (y:=y.2) (b:=b+F0 fs) hys;have hid:Eh hp tm (.st e' fs::ts) (o::os)=j::(Ih fs cs++Eh hp tm ts os):=(by simp only[Eh,hc,hb]);have haf:F2 hp tm rq (.st e' fs::ts) y (o::os) b=(j, .cells lq e' (ED hp rq fs y.1 cs b).1)::((ED hp rq fs y.1 cs b).2++F2 hp tm rq ts y.2 os (b+F0 fs)):=(by simp only[F2,hc,hb]);rw[hid,haf];refine⟨λi hi=> ?_,λi hi=> ?_⟩
             · rw[AUr,AVZ]
               rcases AUH.1 hi with rfl | hi
               · exact AUC
               · refine AUB _ (AUj.2 ((AUj.1 hi).imp (q1 i) (z1 i)))
             · rw[AUr,AVZ]
               refine AUB _ (AUj.2 ?_);rcases AUq i (F0 fs) with hl | hl
               · exact .inl (q2 i hl)
               · have:=z2 (i-F0 fs) (by have:i<F0 fs+LW ts:=hi;omega)
                 rw[show b+F0 fs+(i-F0 fs)=b+i by omega] at this;exact .inr this
           · cases h
         · cases h
       · cases h
     · cases h
   · cases h
 | .Ml e t::ts,o::os,x,y,b,h=>by
   simp only[Cm] at h;split at h
   · rename_i j hc
     split at h
     · rename_i lq e' t' xs hb
       split at h
       · rename_i q
         obtain⟨rfl,rfl⟩:=q;split at h
         · rename_i ys hys
           obtain⟨z1,z2⟩:=Yj (rq:=rq) (ps:=ts) (os:=os) (y:=y.2) (b:=b) hys;have hid:Eh hp tm (.Ml e' t'::ts) (o::os)=j::Eh hp tm ts os:=(by simp only[Eh,hc]);have haf:F2 hp tm rq (.Ml e' t'::ts) y (o::os) b=(j, .row lq e' t' y.1)::F2 hp tm rq ts y.2 os b:=(by simp only[F2,hc,hb]);rw[hid,haf];refine⟨λi hi=> ?_,λi hi=>AUB _ (z2 i hi)⟩;rcases AUH.1 hi with rfl | hi
           · exact AUC
           · exact AUB _ (z1 i hi)
         · cases h
       · cases h
     · cases h
   · cases h
theorem Vb {hp CY:List AB} {tm F3:List AV} : ∀ {ps:List PK} {os:List Operand},(∀o∈os,Aa tm o=Aa F3 o)->(∀o∈os,DV hp CY (cellsOf (Aa tm o)))->gl CY F3 ps os=gl hp tm ps os
 | [],os,_,_=>by cases os<;>rfl
 | .ty _::_,[],_,_=>rfl
 | .st _ _::_,[],_,_=>rfl
 | .Ml _ _::_,[],_,_=>rfl
 | .ty t::ts,o::os,h1,h2=>by
   simp only[gl,<-h1 o AUC,(h2 o AUC).Mv,Vb (ps:=ts) (os:=os) (λo ho=>h1 o (AUB _ ho)) (λo ho=>h2 o (AUB _ ho))]
 | .st _ _::ts,o::os,h1,h2=>Vb (ps:=ts) (os:=os) (λo ho=>h1 o (AUB _ ho)) (λo ho=>h2 o (AUB _ ho))
 | .Ml _ _::ts,o::os,h1,h2=>Vb (ps:=ts) (os:=os) (λo ho=>h1 o (AUB _ ho)) (λo ho=>h2 o (AUB _ ho))
theorem AH3 {Θ:Lz} {S:FuncId->Option FE} {k:Nat} {tm F3:List AV} {hp CY:List AB} {o:Oper} {x:AV} {δ:HC} (h:step Θ S k tm hp o.dst o.op=some (x,δ)) (h1 : ∀x∈reads o.op,Aa tm x=Aa F3 x) (h2 : ∀q∈fts tm o δ,hp[q]? =CY[q]?):step Θ S k F3 CY o.dst o.op=some (x,δ):=by
 have hid : ∀x∈reads o.op,∀j∈idV (Aa tm x),hp[j]? =CY[j]? :=λx hx j hj=>h2 j (AUK _ (AVm.2 ⟨x,hx,hj⟩))
 by_cases cQ : ∃c g s nm,o.op= .call c/\c.callee= .value (.func g)/\S g=some (.io s nm)
 · obtain⟨c,g,s,nm,ho,hc,hs⟩:=cQ
   rw[ho] at h h1 hid ⊢;unfold step at h ⊢;simp only[stepT,hc,hs] at h ⊢;split at h
   · rename_i y hy
     split at h
     · rename_i hl
       obtain⟨z,hz,hr⟩:=Tree.VT h;have hr:some _=some (x,δ):=hr;injection hr with hr;injection hr with hx hδ;subst hx hδ;have hw : ∀q∈(F2 hp tm (LV (IX hp tm s.ps c.args.toList)) s.ps z.2 c.args.toList (iz nm (ux o.dst c.args.toList))).map (·.1),hp[q]? =CY[q]? :=λq hq=>by
        by_cases hk:q∈EL tm s.ps c.args.toList
        · obtain⟨_,o',ho',n,hov⟩:=QD (rq:= .mine) (y:=z.2) (b:=0) hy q hk
          exact hid o' ho' q (by rw[hov];simp[idV,idC])
        · refine h2 q (AUG _ ?_)
          unfold uP;rw[AVZ];refine AUG _ (AUK _ ?_);rcases oV (rq:=LV (IX hp tm s.ps c.args.toList)) (y:=z.2) (b:=iz nm (ux o.dst c.args.toList)) hy with e | ⟨e,_⟩
          · rw[e];exact hq
          · rw[e];exact Te hq hk
       obtain⟨i1,i2⟩:=Yj (rq:=LV (IX hp tm s.ps c.args.toList)) (y:=z.2) (b:=iz nm (ux o.dst c.args.toList)) hy;have hsame : ∀x∈c.args.toList,DV hp CY (cellsOf (Aa tm x)):=λx hx=>Va (hid x hx)
       obtain⟨c1,c2,c3,c4⟩:=MK (CY:=CY) (F3:=F3) (rq:=LV (IX hp tm s.ps c.args.toList)) hy (λo ho=>h1 o ho) (λo ho t=>((hsame o ho).Fk t).1) (λj hj=>hw j (i1 j hj));have c5:=Vb (ps:=s.ps) (os:=c.args.toList) (λo ho=>h1 o ho) hsame;have c6:uy CY F3 s.ps c.args.toList (iz nm (ux o.dst c.args.toList))=true:=by
        rw[<-hl];unfold uy;rw[c2,c5]
        congr 1
        rw[Bool.eq_iff_iff,AUs,AUs];refine forall_congr' λi=>forall_congr' λhi=> ?_
        unfold AEf;rw[hw _ (i2 i (AVR.1 hi))]
       rw[c1];simp only[c6,if_true,c4,c5];show(s.f k y).bind _=_;rw[hz];show some _=some _;rw[c3,Qy (ps:=s.ps) (os:=c.args.toList) (λo ho=>h1 o ho)]
     · cases h
   · cases h
 · rw[<-h]
   refine congrArg Tree.run (AAK _ _ _ (λc g s nm e1 e2 e3=>cQ ⟨c,g,s,nm,e1,e2,e3⟩) h1 hid).symm
theorem gz {D:Nat->Bool} {n:Nat} :(V4 ops us KT D n).length=KT.length:=by simp[V4]
theorem g5 {D:Nat->Bool} {n:Nat} :(V6 ops us He D n).length=He.length:=by simp[V6]
theorem AFD {tm:List AV} {d:Option Tmp} {x:AV} :(OX tm d x).length=tm.length:=by unfold OX;split<;>simp
theorem YR {hp:List AB} : ∀ {l:List (Nat × AB)},(Dx l hp).length=hp.length
 | []=>rfl
 | _::l=>by simp[Dx,YR (l:=l)]
theorem AFE {hp:List AB} {d:Option Tmp} {δ:HC} :(Qq d hp δ).length=hp.length:=by unfold Qq;split<;>simp[YR]
theorem jN {hp:List AB} {t:Nat} (ht:t<hp.length) : ∀(l:List (Nat × AB)),(Dx l hp)[t]? =some (match uQ l t with
 | some x=>x
 | none=>hp.getD t .gone)
 | []=>by simp[Dx,uQ,ht]
 | (j,b)::l=>by
   by_cases h:j=t
   · subst h;simp[Dx,uQ,YR,ht]
   · simp only[Dx,uQ,if_neg h,AUc h];exact jN ht l
theorem AH4 {hp:List AB} {t:Nat} (ht:t<hp.length) (d:Option Tmp) (δ:HC):(Qq d hp δ)[t]? =some (match wrB d t δ with
 | some x=>x
 | none=>hp.getD t .gone):=by
 unfold Qq wrB;cases δ.nw with
 | none=>exact jN ht _
 | some b =>
   cases d with
   | none=>exact jN ht _
   | some q =>
     by_cases h:q=t
     · subst h;simp[YR,ht]
     · simp only[if_neg h,AUc h];exact jN ht _
theorem AFF {A tm:List AV} {i:Nat} (hl:tm.length=KT.length) (hA:A.length=KT.length) (h : ∀t,t<KT.length->A[t]? =some (match wt ops us t i with
 | some x=>x
 | none=>tm.getD t .GZ)):A=OX tm (LP ops i) (us i).x:=by
 apply AVK;intro t;by_cases ht:t<KT.length
 · rw[h t ht]
   unfold wt OX;cases hd:LP ops i with
   | none=>simp[hl,ht]
   | some d =>
     by_cases hdt:d=t
     · subst hdt;simp[hl,ht]
     · have : ¬(some d=some t):=λq=>hdt (AWD q)
       simp[this,hl,ht];rw[List.getElem_set_ne hdt]
 · rw[AUm (by omega),AUm (by rw[AFD];omega)]
theorem AFG {A hp:List AB} {i:Nat} (hl:hp.length=He.length) (hA:A.length=He.length) (h : ∀t,t<He.length->A[t]? =some (match wh ops us t i with
 | some x=>x
 | none=>hp.getD t .gone)):A=Qq (LP ops i) hp (us i).δ:=by
 apply AVK;intro t;by_cases ht:t<He.length
 · rw[h t ht,AH4 (by omega)]
   rfl
 · rw[AUm (by omega),AUm (by rw[AFE];omega)]
def YA (i j:Nat):Bool:=decide (j<i)
theorem AB8 {α:Type} {v:Nat->Option α} {b:α} {i:Nat} :lw v b (YA (i+1)) (i+1)=match v i with
 | some x=>x
 | none=>lw v b (YA i) i:=by
 have:lw v b (YA (i+1)) i=lw v b (YA i) i:=QC v b λm hm _=>by unfold YA;rw[decide_eq_true (by omega),decide_eq_true hm]
 show(match YA (i+1) i,v i with
  | true,some x=>x
  | _,_=>lw v b (YA (i+1)) i)=_
 rw[this,show YA (i+1) i=true from decide_eq_true (by omega)];cases v i<;>rfl
theorem AHp {i:Nat} :V4 ops us KT (YA (i+1)) (i+1)=OX (V4 ops us KT (YA i) i) (LP ops i) (us i).x:=by
 refine AFF gz gz λt ht=> ?_
 rw[Q0,if_pos ht,AB8];cases wt ops us t i with
 | some x=>rfl
 | none=>simp[AUF,Q0,ht]
theorem AHq {i:Nat} :V6 ops us He (YA (i+1)) (i+1)=Qq (LP ops i) (V6 ops us He (YA i) i) (us i).δ:=by
 refine AFG g5 g5 λt ht=> ?_
 rw[Q1,if_pos ht,AB8];cases wh ops us t i with
 | some x=>rfl
 | none=>simp[AUF,Q1,ht]
end
end
section
section
variable {P:Program} {Θ:Lz} {S:FuncId->Option FE} {k:Nat} {U0:Nat->Prop} {ν:Nat->Value} {w0:St} {w:World} {a:Act} {R:Type} {r:R} {ops:Array Oper} {B:List Nat} {us:Nat->Out} {KT:List AV} {He:List AB}
def af (ops:Array Oper) (D:Nat->Bool):Prop:= ∀i,i<ops.size->D i=true-> ∀q∈needs ops i,D q=true
theorem Qu (h:Qt ops B=true) {d:Nat} (hd:d<ops.size):B.getD d 0<2^d/\(∀q∈needs ops d,q<d)/\ ∀i,i<d->(B.getD d 0).testBit i=true-> ∃q∈needs ops d,q=i\/(q<d/\(B.getD q 0).testBit i=true):=by
 unfold Qt at h;have:=AUs.1 h d (AVR.2 hd);simp only[AUO,AUs,decide_eq_true_eq,AVR] at this;refine⟨this.1.1,this.1.2,λi hi hb=> ?_⟩;have h2:=this.2 i hi;rw[hb] at h2;simp only[Bool.not_true,Bool.false_or,List.any_eq_true,AVf,beq_iff_eq,AUO,decide_eq_true_eq] at h2;exact h2
theorem AKn (h:Qt ops B=true) {d:Nat} (hd:d<ops.size) {i:Nat} (hb:(B.getD d 0).testBit i=true):i<d:=by
 rcases AUq i d with q | q
 · exact q
 · have:=AWe (AVC (Qu h hd).1 (Nat.pow_le_pow_right (by omega) q))
   rw[this] at hb;cases hb
theorem vv (hB:Qt ops B=true) {D:Nat->Bool} (hc:af ops D) : ∀(d:Nat),d<ops.size->(∀q∈needs ops d,D q=true)-> ∀i,(B.getD d 0).testBit i=true->D i=true:=by
 intro d;induction d using Nat.strongRecOn with
 | _ d ih =>
   intro hd hn i hb;obtain⟨_,h1,h2⟩:=Qu hB hd;obtain⟨q,hq,hqi | ⟨hlt,hqb⟩⟩:=h2 i (AKn hB hd hb) hb
   · exact hqi▸hn q hq
   · have hqs:q<ops.size:=Nat.lt_trans hlt hd
     exact ih q hlt hqs (hc q hqs (hn q hq)) i hqb
theorem Yk (hB:Qt ops B=true) {D:Nat->Bool} (hc:af ops D) {i j:Nat} (hi:i<ops.size) (hj:j<ops.size) (hn : ∀q∈needs ops i,D q=true) (hD:D i=false) (hij:j≠i) (ho:vG B i j=true):D j=decide (j<i):=by
 unfold vG at ho;split at ho
 · rename_i hlt
   rw[decide_eq_true hlt];exact vv hB hc i hi hn j ho
 · rename_i hge
   rw[decide_eq_false hge];cases hq:D j with
   | false=>rfl
   | true=>rw[vv hB hc j hj (hc j hj hq) i ho] at hD;cases hD
theorem jd (h:jG ops B=true) {i j:Nat} {o:Oper} (ho:ops[i]? =some o) (hj:j<ops.size) (hij:j≠i) {t:Tmp} (hd:LP ops j=some t) (ht:t∈tmpsOf ops o):vG B i j=true:=by
 have hi:i<ops.size:=(AVF.1 ho).1;unfold jG at h;have h1:=AUs.1 h i (AVR.2 hi);rw[ho] at h1;have h2:=AUs.1 h1 j (AVR.2 hj);have hd':(ops[j]?).bind (·.dst)=some t:=hd;rw[hd'] at h2;simp only[AVf,beq_iff_eq,AVb,AVl,decide_eq_false_iff_not] at h2;rcases h2 with(h2 | h2) | h2
 · exact absurd h2 hij
 · exact h2
 · exact absurd ht h2
structure qZ (Θ:Lz) (S:FuncId->Option FE) (k:Nat) (ops:Array Oper) (B:List Nat) (us:Nat->Out) (KT:List AV) (He:List AB) (n:Nat):Prop where
 comes : ∀i,i<n-> ∀o,ops[i]? =some o->qg Θ S k ops (V4 ops us KT (YA i) i) (V6 ops us He (YA i) i) o (us i)
 apart : ∀i j,i<n->j<n->i≠j->vG B i j=true\/ ∀q∈uP (LP ops j) (us j).δ,q ∉ (us i).ft
theorem je {tm F3:List AV} {x:Operand} (h : ∀t,x= .tmp t->tm[t]? =F3[t]?):Aa tm x=Aa F3 x:=by
 cases x with
 | tmp t =>
   show tm.getD t .GZ=F3.getD t .GZ;rw[AUF,AUF,h t rfl]
 | _=>rfl
theorem ADL {o:Oper} {t:Tmp} (h:Operand.tmp t∈reads o.op):t∈tmpsOf ops o:=by
 unfold tmpsOf;refine AUK _ (AUK _ ?_);exact List.mem_filterMap.2 ⟨_,h,rfl⟩
theorem AH5 {o:Oper} {t:Tmp} (h:o.dst=some t):t∈tmpsOf ops o:=by
 unfold tmpsOf;refine AUK _ (AUG _ ?_);simp[h]
theorem oY {o:Oper} {j:Nat} {want:Bool} {t:Tmp} (hg:o.guard=some (j,want)) (h:(ops[j]?).bind (·.dst)=some t):t∈tmpsOf ops o:=by
 unfold tmpsOf;refine AUG _ ?_;rw[hg];simp[h]
theorem rI {q:Nat} : ∀ {l:List (Nat × AB)},uQ l q≠none->q∈l.map (·.1)
 | [],h=>absurd rfl h
 | (j,b)::l,h=>by
   unfold uQ at h;split at h
   · rename_i e;subst e;simp
   · exact AUB _ (rI h)
theorem rJ {d:Option Tmp} {q:Nat} {δ:HC} (h:wrB d q δ≠none):q∈uP d δ:=by
 unfold wrB at h;unfold uP;split at h
 · rename_i b t hn
   split at h
   · rename_i e;subst e;rw[hn];simp
   · exact AUG _ (rI h)
 · exact AUG _ (rI h)
theorem ADM {d:Option Tmp} {hp CY:List AB} {δ:HC} (h : ∀q∈uP d δ,hp[q]? =CY[q]?):hok d hp δ=hok d CY δ:=by
 have h2:(δ.ch.all λp=>qU hp p.1&& !FI p.2)=δ.ch.all λp=>qU CY p.1&& !FI p.2:=by
  rw[Bool.eq_iff_iff,AUs,AUs];refine forall_congr' λp=>forall_congr' λCY=> ?_
  unfold qU;rw[h p.1 (AUG _ (AUx.2 ⟨p,CY,rfl⟩))]
 unfold hok;rw[h2];split
 · rename_i b t hn
   rw[h t (by unfold uP;rw[hn];simp)]
 · rfl
 · rfl
def also (D:Nat->Bool) (i j:Nat):Bool:=if j=i then true else D j
section
variable (hB:Qt ops B=true) (hN:jG ops B=true) (rec:qZ Θ S k ops B us KT He ops.size) {D:Nat->Bool} (hc:af ops D) {i:Nat} (hi:i<ops.size) (hn : ∀q∈needs ops i,D q=true) (hD:D i=false) {o:Oper} (ho:ops[i]? =some o)
include hB hN rec hc hi hn hD ho
theorem rK {t:Tmp} (ht:t∈tmpsOf ops o):(V4 ops us KT D ops.size)[t]? =(V4 ops us KT (YA i) i)[t]? :=by
 rw[Q0,Q0];rw[AJK ops.size (wt ops us t) (KT.getD t .GZ) hi hD λj hj hij hw=>Yk hB hc hi hj hn hD hij (jd hN ho hj hij (t:=t) (by
  unfold wt at hw;split at hw
  · rename_i e;exact e
  · exact absurd rfl hw) ht)]
 rfl
theorem AH6 {q:Nat} (hq:q∈(us i).ft):(V6 ops us He D ops.size)[q]? =(V6 ops us He (YA i) i)[q]? :=by
 rw[Q1,Q1];rw[AJK ops.size (wh ops us q) (He.getD q .gone) hi hD λj hj hij hw=>Yk hB hc hi hj hn hD hij ((rec.apart i j hi hj (AXF hij)).resolve_right λh=>h q (rJ hw) hq)];rfl
theorem AFH (q:Nat) (hq:q∈uP o.dst (us i).δ):q∈(us i).ft:=by
 rcases rec.comes i hi o ho with⟨_,_,h,_⟩ | ⟨_,h,_⟩
 · rw[h];exact AUG _ hq
 · rw[h] at hq;simp[uP] at hq
theorem AFI:LP ops i=o.dst:=by unfold LP;rw[ho];rfl
theorem AHn:V4 ops us KT (also D i) ops.size=OX (V4 ops us KT D ops.size) o.dst (us i).x:=by
 have hd:=AFI hB hN rec hc hi hn hD ho;rw[<-hd];refine AFF gz gz λt ht=> ?_
 rw[Q0,if_pos ht];cases hw:wt ops us t i with
 | none =>
   rw[show also D i=(λj=>if j=i then true else D j) from rfl,vu ops.size (wt ops us t) _ hw];simp[AUF,Q0,ht]
 | some x =>
   have hdt:LP ops i=some t:=by
    unfold wt at hw;split at hw
    · rename_i e;exact e
    · cases hw
   rw[AB7 ops.size (wt ops us t) _ hi hw (by simp[also]) λj hj hij hw2=> ?_];have hj2:LP ops j=some t:=by
    unfold wt at hw2;split at hw2
    · rename_i e;exact e
    · exact absurd rfl hw2
   have:=Yk hB hc hi hj hn hD (show j≠i by omega) (jd hN ho hj (by omega) hj2 (AH5 (by rw[<-hd];exact hdt)));unfold also;rw[if_neg (by omega),this,decide_eq_false (by omega)]
theorem AHo:V6 ops us He (also D i) ops.size=Qq o.dst (V6 ops us He D ops.size) (us i).δ:=by
 have hd:=AFI hB hN rec hc hi hn hD ho;rw[<-hd];refine AFG g5 g5 λt ht=> ?_
 rw[Q1,if_pos ht];cases hw:wh ops us t i with
 | none =>
   rw[show also D i=(λj=>if j=i then true else D j) from rfl,vu ops.size (wh ops us t) _ hw];simp[AUF,Q1,ht]
 | some x =>
   have hq:t∈(us i).ft:=AFH hB hN rec hc hi hn hD ho t (by rw[<-hd];exact rJ (by rw[show wrB _ _ _=some x from hw];simp));rw[AB7 ops.size (wh ops us t) _ hi hw (by simp[also]) λj hj hij hw2=> ?_];have:=Yk hB hc hi hj hn hD (show j≠i by omega) ((rec.apart i j hi hj (by omega)).resolve_right λh=>h t (rJ hw2) hq);unfold also;rw[if_neg (by omega),this,decide_eq_false (by omega)]
theorem ADF:qg Θ S k ops (V4 ops us KT D ops.size) (V6 ops us He D ops.size) o (us i):=by
 have hop : ∀x∈reads o.op,Aa (V4 ops us KT (YA i) i) x=Aa (V4 ops us KT D ops.size) x:=λx hx=>je λt ht=>(rK hB hN rec hc hi hn hD ho (ADL (ht▸hx))).symm
 rcases rec.comes i hi o ho with⟨h1,h2,h3,h4⟩ | ⟨h1,h2,h3,j,want,t,g1,g2,g3⟩
 · have hh : ∀q∈(us i).ft,(V6 ops us He (YA i) i)[q]? =(V6 ops us He D ops.size)[q]? :=λq hq=>(AH6 hB hN rec hc hi hn hD ho hq).symm
   refine .inl ⟨?_, ?_, ?_, ?_⟩
   · exact AH3 h1 hop λq hq=>hh q (by rw[h3];exact hq)
   · rw[<-h2]
     exact(ADM λq hq=>hh q (AFH hB hN rec hc hi hn hD ho q hq)).symm
   · rw[h3]
     unfold fts
     congr 1
     rw[List.flatMap_def,List.flatMap_def]
     congr 1
     exact AVE λx hx=>by rw[hop x hx]
   · refine h4.imp id λ⟨j,want,t,b,g1,g2,g3,g4⟩=>⟨j,want,t,b,g1,g2, ?_,g4⟩
     rw[<-g3];exact je λt' ht'=>by injection ht' with ht';subst ht';exact rK hB hN rec hc hi hn hD ho (oY g1 g2)
 · refine .inr ⟨h1,h2,h3,j,want,t,g1,g2, ?_⟩
   refine Eq.mp (congrArg (AH2 want) (Eq.symm ?_)) g3;exact je λt' ht'=>by injection ht' with ht';subst ht';exact rK hB hN rec hc hi hn hD ho (oY g1 g2)
end
end
end
end Go.Proofs.YtjocbnjpjihpnaaGreatW.Ic
end
