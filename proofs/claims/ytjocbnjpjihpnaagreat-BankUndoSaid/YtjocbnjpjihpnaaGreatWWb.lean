/- Words for walks over printed functions: those that are used here, as a program has laid them. -/
import Derived.Test.YtjocbnjpjihpnaaGreatWWa
import Derived.MapKept
import Derived.Carry
set_option linter.unusedSimpArgs false
section
namespace Go.Proofs.YtjocbnjpjihpnaaGreatW.Gb
open Go.RowKit Go.Proofs.YtjocbnjpjihpnaaGreatW.AD Go.Proofs.YtjocbnjpjihpnaaGreatW.AR Go.Proofs.YtjocbnjpjihpnaaGreatW.AY
set_option linter.unusedVariables false
set_option linter.unusedSectionVars false
section
theorem Fe {vs:List Value} (h : ∀v∈vs,v.oneCell'=true):(Ny vs).cells=vs.toArray:=by
 unfold Ny;split
 · rename_i x
   have:=h x ANH;cases x<;>first | rfl | simp[Value.oneCell'] at this
 · rfl
section
variable {P:Program} {Θ:JE} {S:FuncId->Option FE} {k:Nat} {o:Oper} {U0:Nat->Prop} {ν:Nat->Value} {tm:List AV} {hp B0:List AB} {w0:St} {w:World} {a:Act} {R:Type} {K:AV->HC->Tree R} {r:R}
theorem Fa.cells (I:Inv U0 ν tm hp w0 a w) {cs:List AC} {v:Value} (h:Fa U0 ν (lv hp) w (.val cs) v) : ∃vs,v=Ny vs/\v.cells=vs.toArray/\CD (CW U0 ν (lv hp) w) cs vs/\ ∀u∈vs,u.oneCell'=true:=by
 obtain⟨vs,rfl,h2⟩:=h;have h1 : ∀u∈vs,u.oneCell'=true:=λu hu=>by
  obtain⟨c,_,hr⟩:=h2.mem u hu;exact hr.one I.iF
 exact⟨vs,rfl,Fe h1,h2,h1⟩
theorem Mq {t:Tmp} {b:AB} {l:List (Nat × AB)} (h:hok (some t) hp ⟨some b,l⟩=true):hp[t]? =some .gone/\EI b=false/\True:=by
 unfold hok at h;simp only[ANQ,AOc,ANy] at h;obtain⟨⟨h1,h2⟩,h3⟩:=h;refine⟨?_,h2,trivial⟩;split at h1
 · assumption
 · cases h1
theorem D4 {hp:List AB} {t:Nat} {b:AB} (h:hp[t]? =some .gone) (hb:EI b=false):(∀j,lv (hp.set t b) j↔lv hp j\/j=t)/\ ¬lv hp t:=by
 have hlt:=(ANN.1 h).1;refine⟨λj=> ?_,λ⟨b',q1,q2⟩=>by rw[h] at q1;injection q1 with q1;subst q1;cases q2⟩;unfold lv;by_cases hj:t=j
 · subst hj
   exact⟨λ_=> .inr rfl,λ_=>⟨b,by simp[hlt],hb⟩⟩
 · rw[ANf hj]
   exact⟨.inl,λq=>q.resolve_right λz=>hj z.symm⟩
theorem Inv.new (I:Inv U0 ν tm hp w0 a w) (hU : ∀q,U0 q->q<w0.heap.size) {t:Tmp} {b:AB} {u v:Value} {x:AV} {w':World} (hg:hp[t]? =some .gone) (hb:EI b=false)
 (hs:w.heap.size<=w'.heap.size) (hk : ∀k,k<w.heap.size->w'.heap[k]? =w.heap[k]?) (hu : ∀k,C4 u=some k->w.heap.size<=k)
 (hF:Since w0 w') (hB:Move (Un U0 ν (lv hp)) w w' (Un U0 (upd ν t u) (lv (hp.set t b)))->(∀j,lv hp j->lv (hp.set t b) j/\Kp ν (upd ν t u) j)->SN U0 (upd ν t u) (lv (hp.set t b)) w0 w' t b/\Fa U0 (upd ν t u) (lv (hp.set t b)) w' x v) (d:Option Tmp) :
 Inv U0 (upd ν t u) (Lj tm d x) (hp.set t b) w0 (a.put d v) w':=by
 have hlt:=(ANN.1 hg).1;obtain⟨hlv,hnt⟩:=D4 hg hb;have hne : ∀j,lv hp j->j≠t:=λj hj q=>hnt (q▸hj)
 have hL : ∀j,lv hp j->lv (hp.set t b) j/\Kp ν (upd ν t u) j:=λj hj=>⟨(hlv j).2 (.inl hj), .inl (Fz (hne j hj))⟩
 have m:Move (Un U0 ν (lv hp)) w w' (Un U0 (upd ν t u) (lv (hp.set t b))):=by
  refine⟨hs,λq hq _=>hk q hq,λq hq hun=> ?_⟩;rcases hun with hun | ⟨j,hj,Zh⟩
  · exact .inl hun
  · rcases(hlv j).1 hj with hj | hj
    · rw[Fz (hne j hj)] at Zh;exact .inr ⟨j,hj,Zh⟩
    · subst hj
      rw[BQ] at Zh;have:=hu q Zh;omega
 obtain⟨hBt,hx⟩:=hB m hL;refine I.put d x v m hL hx (λj b' h1 h2=> ?_) (λi j hij hi hj q h1 h2=> ?_) hF (I.fx.yh λj b' h1 h2=> ?_)
 · by_cases hjt:t=j
   · subst hjt
     rw[AN2 hlt] at h1;injection h1 with h1;subst h1;exact hBt
   · rw[ANf hjt] at h1
     exact(I.mem j b' h1 h2).move m hL (Fz λz=>hjt z.symm) (λq hq=>hk q (I.lt ⟨b',h1,h2⟩ hq).1)
 · rcases(hlv i).1 hi with hi' | hi'
   · rw[Fz (hne i hi')] at h1
     rcases(hlv j).1 hj with hj' | hj'
     · rw[Fz (hne j hj')] at h2
       exact I.qV i j hij hi' hj' q h1 h2
     · subst hj'
       rw[BQ] at h2;have:=(I.lt hi' h1).1;have:=hu q h2;omega
   · subst hi'
     rw[BQ] at h1;have:=hu q h1;rcases(hlv j).1 hj with hj' | hj'
     · rw[Fz (hne j hj')] at h2
       have:=(I.lt hj' h2).1;omega
     · exact hij hj'.symm
 · have hne:j≠t:=by
    rintro rfl;rw[hg] at h1;injection h1 with h1;subst h1;cases h2
   exact⟨Fz hne,b',by rw[ANf (AQN hne)];exact h1,h2⟩
theorem Since.alloc {s:St} {w:World} (h:Since s w) (o:Obj):Since s (w.alloc o):=h.step ((Below.refl _ w).alloc (ANS _) _)
theorem nG (I:Inv U0 ν tm hp w0 a w) (hU : ∀q,U0 q->q<w0.heap.size) {t:Tmp} (hd:o.dst=some t) {e:TypeId} {cs:List AC} {vs:List Value} (hcs:CD (CW U0 ν (lv hp) w) cs vs)
 (hrun:(execOp a.eval o).run P w= .ok (.value (.pointer (some ⟨w.heap.size,0,none⟩))) (w.alloc (.cells vs.toArray e (0,0)))):Goes P o U0 ν tm hp w0 a w (.val [.ptr t 0]) ⟨some (.cells .mine e cs),[]⟩:=by
 intro hh next Q h
 unfold Oper.wp;rw[hrun];rw[hd] at hh h;show next (a.put o.dst _) _
 rw[hd];obtain⟨hg,hb,_⟩:=Mq hh;refine h (upd ν t (.pointer (some ⟨w.heap.size,0,none⟩))) _ _ (I.new hU hg hb (by simp) (λq hq=>Below.heap_alloc _ _ _ hq) (λk hk=> ?_) (I.fr.alloc _) (λm hL=> ?_) _)
 · injection hk with hk
   have hk:w.heap.size=k:=hk;omega
 · refine⟨⟨w.heap.size,vs,BQ,KQ.new I.fr.size,heap_alloc_new w _,hcs.imp λ_ _ h=>CW.move m hL h⟩,D3 (c:= .ptr t 0) (show CW _ _ _ _ (.ptr t 0) _ from⟨((D4 hg hb).1 t).2 (.inr rfl),_,BQ,rfl⟩)⟩
theorem wQ (hΘ:Θ.ok P=true) (I:Inv U0 ν tm hp w0 a w) (hU : ∀q,U0 q->q<w0.heap.size) {e:TypeId} (ho:o.op= .alloc e) {i:TI} {t:Tmp} (hi:ti Θ e=some i) (hd:o.dst=some t) (h:(K (.val [.ptr t 0]) ⟨some (.cells .mine e i.zero),[]⟩).run=some r):CX P Θ S k o U0 ν tm hp w0 a w K r:=by
 obtain⟨f,d,hf,_,_,_,_,_,_,z,hz,l9⟩:=BO hΘ hi;have hr:CD (CW U0 ν (lv hp) w) i.zero z:=Kj l9;have h4 : ∀u∈z,u.oneCell'=true:=λu hu=>by
  obtain⟨c,_,hr⟩:=hr.mem u hu;exact hr.one I.iF
 refine⟨_,_,h,nG I hU hd hr ?_⟩;have hzv:(zeroValue e).run P w= .ok (Ny z) w:=by simp[zeroValue,typeInfo,hf,hz]
 simp only[execOp,ho];simp[Instr.alloc,hzv,newVar,newRow,Fe h4]
end
end
section
theorem Km {P:Program} (g:Nat) (t:TypeId) (o:Nat) : ∀(vs:List Value) (i:Nat) (cur:List Value) (w:World),w.heap[g]? =some (.cells cur.toArray t (0,0))->o+i+vs.length<=cur.length->(∀v∈vs,v.oneCell'=true) ->
 ∃w',(storeCells ⟨g,o,none⟩ vs i).run P w= .ok () w'/\w'.heap[g]? =some (.cells (cur.take (o+i)++vs++cur.drop (o+i+vs.length)).toArray t (0,0))/\w'.heap.size=w.heap.size/\(∀q,q≠g->w'.heap[q]? =w.heap[q]?)/\w'.os=w.os/\w'.tape=w.tape/\w'.output=w.output
 | [],i,cur,w,hg,hl,_=>⟨w,rfl,by simp[hg],rfl,λ_ _=>rfl,rfl,rfl,rfl⟩
 | v::rest,i,cur,w,hg,hl,h1=>by
   have hl':o+i<cur.length:=(by simp at hl;omega);have hcell:w.cell? ⟨g,o+i,none⟩=some cur[o+i]:=by
    rw[Ik hg];simp[hl']
   have hfr:=ZV hg (o+i);have hst:(store ((⟨g,o,none⟩:Addr).add i) v).run P w= .ok () (w.setCell ⟨g,o+i,none⟩ v):=by
    rw[Hf,run_store P w _ v _ (h1 v (by simp)),hcell];simp[hfr]
   have hg2:(w.setCell ⟨g,o+i,none⟩ v).heap[g]? =some (.cells (cur.set (o+i) v).toArray t (0,0)):=by
    rw[tv hg];simp
   obtain⟨w',q1,q2,q3,q4,q5,q6,q7⟩:=Km (P:=P) g t o rest (i+1) (cur.set (o+i) v) (w.setCell ⟨g,o+i,none⟩ v) hg2 (by simp at hl ⊢;omega) (λx hx=>h1 x (by simp[hx]));refine⟨w', ?_, ?_, ?_,λq hq=>(q4 q hq).trans (Below.heap_setCell _ _ _ _ hq),q5,q6,q7⟩
   · simp only[storeCells,Sem.run_bind,hst,Result.andThen_ok,q1]
   · rw[q2]
     congr 3
     apply AOP;intro m;simp only[AO8,ANT,ANO,AN3,ANt,ANg,ANj,APS];simp only[ANt] at hl;rcases AQU m (o+i) with hm | hm | hm
     · simp[show m<min (o+(i+1)) cur.length+rest.length by omega,show m<min (o+(i+1)) cur.length by omega,show m<o+(i+1) by omega,show m<min (o+i) cur.length+(rest.length+1) by omega,show m<min (o+i) cur.length by omega,show m<o+i by omega,show o+i≠m by omega]
     · subst hm
       simp[show o+i<min (o+(i+1)) cur.length+rest.length by omega,show o+i<min (o+(i+1)) cur.length by omega,show o+i<o+(i+1) by omega,show o+i<min (o+i) cur.length+(rest.length+1) by omega,show¬o+i<min (o+i) cur.length by omega,hl',show o+i-min (o+i) cur.length=0 by omega]
     · by_cases hm2:m<o+(i+1)+rest.length
       · simp[show m<min (o+(i+1)) cur.length+rest.length by omega,show¬m<min (o+(i+1)) cur.length by omega,show m<min (o+i) cur.length+(rest.length+1) by omega,show¬m<min (o+i) cur.length by omega,show m-min (o+i) cur.length=(m-min (o+(i+1)) cur.length)+1 by omega]
       · simp[show¬m<min (o+(i+1)) cur.length+rest.length by omega,show¬m<min (o+i) cur.length+(rest.length+1) by omega,show o+(i+1)+rest.length+(m-(min (o+(i+1)) cur.length+rest.length))=o+i+(rest.length+1)+(m-(min (o+i) cur.length+(rest.length+1))) by omega]
         intro hc;exact absurd hc (by omega)
   · rw[q3];simp[World.setCell]
section
variable {P:Program} {Θ:JE} {S:FuncId->Option FE} {k:Nat} {o:Oper} {U0:Nat->Prop} {ν:Nat->Value} {tm:List AV} {hp:List AB} {w0:St} {w:World} {a:Act} {R:Type} {K:AV->HC->Tree R} {r:R}
theorem Inv.ACU (I:Inv U0 ν tm hp w0 a w) {j g:Nat} {b0 b:AB} {w':World} (hb0:hp[j]? =some b0) (hg0:EI b0=false) (hg:EI b=false) (hν:C4 (ν j)=some g) (hs:w'.heap.size=w.heap.size) (hk : ∀q,q≠g->w'.heap[q]? =w.heap[q]?)
 (hF:Since w0 w') (hfx:P0 b0=true->P0 b=true) (hB:Move (Un U0 ν (lv hp)) w w' (Un U0 ν (lv hp))->SN U0 ν (lv hp) w0 w' j b) (d:Option Tmp) (v:Value):Inv U0 ν (Lj tm d .FA) (hp.set j b) w0 (a.put d v) w':=by
 have hj:lv hp j:=⟨b0,hb0,hg0⟩;have el:=yj hj hg;have hlt:=(ANN.1 hb0).1;have hun:Un U0 ν (lv hp) g:= .inr ⟨j,hj,hν⟩;have m:Move (Un U0 ν (lv hp)) w w' (Un U0 ν (lv hp)):=⟨by omega,λq _ hu=>hk q (λz=>hu (z▸hun)),λ_ _ z=>z⟩;refine I.put d .FA v (by rw[el];exact m) (by rw[el];exact Rb) trivial (λi b' h1 h2=> ?_) (by rw[el];exact I.qV) hF (I.fx.yh λi b' h1 h2=>⟨rfl, ?_⟩);rotate_left
 · by_cases hij:j=i
   · subst hij
     rw[hb0] at h1;injection h1 with h1;subst h1;exact⟨b,AN2 hlt,hfx h2⟩
   · exact⟨b',by rw[ANf hij];exact h1,h2⟩
 rw[el];by_cases hij:j=i
 · subst hij
   rw[AN2 hlt] at h1;injection h1 with h1;subst h1;exact hB m
 · rw[ANf hij] at h1
   refine(I.mem i b' h1 h2).move m Rb rfl λq hq=>hk q λz=> ?_
   subst z;exact I.qV j i hij hj ⟨b',h1,h2⟩ q hν hq
def Mo (hp:List AB) (l:List (Nat × AB)):Prop:= ∀p∈l,∃e t xs,hp[p.1]? =some (.row .mine e t xs)/\p.2= .Zg e t xs
theorem KS : ∀(cs:List AC),Mo hp (Kb hp cs)
 | []=>λp h=>by simp[Kb] at h
 | c::cs=>by
   intro p h;cases c with
   | own j =>
     simp only[Kb] at h;split at h
     · rename_i e t xs hb
       rcases ANM.1 h with rfl | h
       · exact⟨e,t,xs,hb,rfl⟩
       · exact KS cs p h
     · exact KS cs p h
   | _=>exact KS cs p h
theorem Mo.app {l l':List (Nat × AB)} (h:Mo hp l) (h':Mo hp l'):Mo hp (l++l'):=λp q=>(ANp.1 q).elim (h p) (h' p)
theorem Uq : ∀(os:List Operand),Mo hp (HZ hp tm os)
 | []=>λp h=>by simp[HZ] at h
 | o::os=>(KS _).app (Uq os)
theorem FR : ∀ {l:List (Nat × AB)},Mo hp l-> ∀j,(DB l hp)[j]? =hp[j]? \/ ∃e t xs,hp[j]? =some (.row .mine e t xs)/\(DB l hp)[j]? =some (.Zg e t xs)/\JF l j=true
 | [],_,j=> .inl rfl
 | (i,b)::l,h,j=>by
   have ih:=FR (l:=l) (λp q=>h p (ANG _ q));obtain⟨e,t,xs,h1,h2⟩:=h (i,b) ANH;have h1:hp[i]? =some (.row .mine e t xs):=h1;have h2:b= .Zg e t xs:=h2;subst h2;have hlt:i<(DB l hp).length:=by
    rcases ih i with q | ⟨_,_,_,_,q,_⟩
    · rw[h1] at q;exact(ANN.1 q).1
    · exact(ANN.1 q).1
   by_cases hij:i=j
   · subst hij
     exact .inr ⟨e,t,xs,h1,by simp[DB,hlt],by simp[JF]⟩
   · simp only[DB,ANf hij]
     rcases ih j with q | ⟨e,t,xs,q1,q2,q3⟩
     · exact .inl q
     · exact .inr ⟨e,t,xs,q1,q2,by simp[JF,q3]⟩
theorem iX {l:List (Nat × AB)} (h:Mo hp l) {j:Nat} (hj:JF l j=true) : ∃e t xs,(DB l hp)[j]? =some (.Zg e t xs):=by
 induction l with
 | nil=>simp[JF] at hj
 | cons p l ih =>
   obtain⟨i,b⟩:=p;have hl:Mo hp l:=λp q=>h p (ANG _ q)
   obtain⟨e,t,xs,h1,h2⟩:=h (i,b) ANH;have h2:b= .Zg e t xs:=h2;have h1:hp[i]? =some (.row .mine e t xs):=h1;subst h2;have hlt:i<(DB l hp).length:=by
    rcases FR hl i with q | ⟨_,_,_,_,q,_⟩
    · rw[h1] at q;exact(ANN.1 q).1
    · exact(ANN.1 q).1
   by_cases hij:i=j
   · subst hij
     exact⟨e,t,xs,by simp[DB,hlt]⟩
   · simp[JF,hij] at hj
     obtain⟨e',t',xs',q⟩:=ih hl hj;exact⟨e',t',xs',by simp only[DB,ANf hij];exact q⟩
theorem Inv.IA (I:Inv U0 ν tm hp w0 a w) (hU : ∀k,U0 k->k<w0.heap.size) : ∀ {l:List (Nat × AB)},Mo hp l-> ∃ν',Inv U0 ν' tm (DB l hp) w0 a w
 | [],_=>⟨ν,I⟩
 | (i,b)::l,h=>by
   have hl:Mo hp l:=λp q=>h p (ANG _ q)
   obtain⟨ν',I'⟩:=I.IA hU hl;obtain⟨e,t,xs,h1,h2⟩:=h (i,b) ANH;have h2:b= .Zg e t xs:=h2;have h1:hp[i]? =some (.row .mine e t xs):=h1;subst h2;rcases FR hl i with q | ⟨e',t',xs',q1,q2,_⟩
   · exact⟨_,I'.AB6 hU (q.trans h1)⟩
   · rw[h1] at q1
     injection q1 with q1;cases q1;refine⟨ν', ?_⟩;have:(DB l hp).set i (.Zg e t xs)=DB l hp:=by
      apply AOP;intro m;by_cases hm:i=m
      · subst hm;rw[AN2 (ANN.1 q2).1,q2]
      · rw[ANf hm]
     show Inv U0 ν' tm ((DB l hp).set i (.Zg e t xs)) w0 a w;rw[this];exact I'
theorem rT {l:List (Nat × AB)} (h:Mo hp l) (j:Nat) (e:TypeId) (t:Ty):ownRow (DB l hp) j e t=ownRow hp j e t:=by
 unfold ownRow;rcases FR h j with q | ⟨e',t',xs,q1,q2,_⟩
 · rw[q]
 · rw[q1,q2]
theorem Rl {hp B0:List AB} : ∀ {t:Ty} {cs:List AC},(∀j e t,AC.own j∈cs->ownRow hp j e t=ownRow B0 j e t)->Ee hp t cs=Ee B0 t cs/\ ∀x rest,Ee hp t cs=some (x,rest)-> ∀c∈rest,c∈cs
 | .cons p q,cs,h=>by
   obtain⟨h1,h2⟩:=Rl (t:=p) h;simp only[Ee,<-h1];cases Lh:Ee hp p cs with
   | none=>exact⟨rfl,λx rest z=>by cases z⟩
   | some y =>
     obtain⟨x,cs'⟩:=y;have hs:=h2 x cs' Lh;obtain⟨h3,h4⟩:=Rl (t:=q) (cs:=cs') λj e t hj=>h j e t (hs _ hj)
     dsimp only;rw[<-h3];cases Lg:Ee hp q cs' with
     | none=>exact⟨rfl,λx rest z=>by cases z⟩
     | some y =>
       obtain⟨x2,cs2⟩:=y;refine⟨rfl,λx' rest z c hc=>hs c (h4 x2 cs2 Lg c ?_)⟩;injection z with z;injection z with _ z;subst z;exact hc
 | .int kk,cs,h=>by
   cases cs with
   | nil=>exact⟨rfl,λx rest z=>by cases z⟩
   | cons c cs =>
     cases c<;>refine⟨rfl,λx rest z=> ?_⟩<;>simp only[Ee] at z<;>try (simp at z;done)
     split at z
     · rename_i e;subst e;injection z with z;injection z with _ z;subst z;exact λc hc=>ANG _ hc
     · cases z
 | .bool,cs,h=>by
   cases cs with
   | nil=>exact⟨rfl,λx rest z=>by cases z⟩
   | cons c cs =>
     cases c<;>refine⟨rfl,λx rest z=> ?_⟩<;>simp only[Ee] at z<;>try (simp at z;done)
     split at z
     · rename_i e;subst e;injection z with z;injection z with _ z;subst z;exact λc hc=>ANG _ hc
     · cases z
 | .str,cs,h=>by
   cases cs with
   | nil=>exact⟨rfl,λx rest z=>by cases z⟩
   | cons c cs =>
     cases c<;>refine⟨rfl,λx rest z=> ?_⟩<;>simp only[Ee] at z<;>try (simp at z;done)
     split at z
     · rename_i e;subst e;injection z with z;injection z with _ z;subst z;exact λc hc=>ANG _ hc
     · cases z
 | .row e t,cs,h=>by
   cases cs with
   | nil=>exact⟨rfl,λx rest z=>by cases z⟩
   | cons c cs =>
     cases c with
     | own j =>
       have:=h j e t ANH;simp only[Ee,<-this];refine⟨trivial,λx rest z=> ?_⟩;split at z
       · injection z with z;injection z with _ z;subst z;exact λc hc=>ANG _ hc
       · cases z
     | Bo =>
       refine⟨rfl,λx rest z=> ?_⟩;simp only[Ee] at z;injection z with z;injection z with _ z;subst z;exact λc hc=>ANG _ hc
     | ro t' y =>
       refine⟨rfl,λx rest z=> ?_⟩;simp only[Ee] at z;split at z
       · rename_i e;subst e;injection z with z;injection z with _ z;subst z;exact λc hc=>ANG _ hc
       · cases z
     | _=>refine⟨rfl,λx rest z=> ?_⟩;simp[Ee] at z
theorem ZE {l:List (Nat × AB)} (h:Mo hp l) (t:Ty) (cs:List AC):Ee (DB l hp) t cs=Ee hp t cs:=(Rl λj e t _=>rT h j e t).1
def Cc (U:Nat->Prop) (ν:Nat->Value) (hp:List AB) (cs:List AC):Prop:= ∀j e t xs,AC.own j∈cs->hp[j]? =some (.row .mine e t xs)-> ∀k,C4 (ν j)=some k-> ¬U k
theorem rU (I:Inv U0 ν tm hp w0 a w) {U:Nat->Prop} (hU : ∀k,k<w.heap.size->U k->Un U0 ν (lv hp) k) {j:Nat} {e:TypeId} {t:Ty} {xs:List (T t)} {v:Value} (h:ownRow hp j e t=some xs) (hv:CW U0 ν (lv hp) w (.own j) v) (hm : ∀e t xs,hp[j]? =some (.row .mine e t xs)-> ∀k,C4 (ν j)=some k-> ¬U k):Rd U w (.row e t) xs [v]:=by
 obtain⟨hj,hv⟩:=hv;unfold ownRow at h;split at h
 · rename_i e' t' ys hb
   split at h
   · rename_i q
     obtain⟨rfl,rfl⟩:=q;injection h with h;subst h;obtain⟨h1,A,n,h2⟩:=(I.mem j _ hb rfl).LI (U:=U) λk hk hu=>⟨hU k hk hu,λz=>hm _ _ _ hb k z hu⟩
     have:v=ν j:=(by rw[hv,h2];rfl);rw[this];exact h1
   · cases h
 · rename_i e' t' ys hb
   split at h
   · rename_i q
     obtain⟨rfl,rfl⟩:=q;injection h with h;subst h;obtain⟨u,h1,h2⟩:=I.mem j _ hb rfl;have:v=u:=(by rw[hv,h1];rfl);rw[this];exact h2.move ⟨ANS _,λ_ _ _=>rfl,λk hk hu=>hU k hk hu⟩
   · cases h
 · cases h
theorem Kk (I:Inv U0 ν tm hp w0 a w) {U:Nat->Prop} (hU : ∀k,k<w.heap.size->U k->Un U0 ν (lv hp) k) : ∀ {t:Ty} {cs rest:List AC} {x:T t} {vs:List Value},Cc U ν hp cs->Ee hp t cs=some (x,rest)->CD (CW U0 ν (lv hp) w) cs vs-> ∃v1 v2,vs=v1++v2/\Rd U w t x v1/\CD (CW U0 ν (lv hp) w) rest v2/\Cc U ν hp rest
 | .cons p q,cs,rest,x,vs,hm,h,hr=>by
   simp only[Ee] at h;split at h
   · rename_i x1 cs1 h1
     split at h
     · rename_i x2 cs2 h2
       injection h with h;injection h with hx hc;subst hx hc;obtain⟨v1,v2,rfl,q1,q2,q3⟩:=Kk I hU hm h1 hr;obtain⟨v3,v4,rfl,q4,q5,q6⟩:=Kk I hU q3 h2 q2;exact⟨v1++v3,v4,(AOJ ..).symm,⟨v1,v3,rfl,q1,q4⟩,q5,q6⟩
     · cases h
   · cases h
 | .int kk,[],rest,x,vs,hm,h,hr=>by simp[Ee] at h
 | .bool,[],rest,x,vs,hm,h,hr=>by simp[Ee] at h
 | .str,[],rest,x,vs,hm,h,hr=>by simp[Ee] at h
 | .row e t,[],rest,x,vs,hm,h,hr=>by simp[Ee] at h
 | .int kk,c::cs,rest,x,v::vs,hm,h,hr=>by
   cases c<;>simp only[Ee] at h<;>try (simp at h;done)
   split at h
   · rename_i t' y e
     subst e;injection h with h;injection h with hx hc;subst hx hc;exact⟨[v],vs,rfl,hr.1.2,hr.2,λj e t xs hj=>hm j e t xs (ANG _ hj)⟩
   · cases h
 | .bool,c::cs,rest,x,v::vs,hm,h,hr=>by
   cases c<;>simp only[Ee] at h<;>try (simp at h;done)
   split at h
   · rename_i t' y e
     subst e;injection h with h;injection h with hx hc;subst hx hc;exact⟨[v],vs,rfl,hr.1.2,hr.2,λj e t xs hj=>hm j e t xs (ANG _ hj)⟩
   · cases h
 | .str,c::cs,rest,x,v::vs,hm,h,hr=>by
   cases c<;>simp only[Ee] at h<;>try (simp at h;done)
   split at h
   · rename_i t' y e
     subst e;injection h with h;injection h with hx hc;subst hx hc;exact⟨[v],vs,rfl,hr.1.2,hr.2,λj e t xs hj=>hm j e t xs (ANG _ hj)⟩
   · cases h
 | .row e t,c::cs,rest,x,v::vs,hm,h,hr=>by
   have hm':Cc U ν hp cs:=λj e t xs hj=>hm j e t xs (ANG _ hj)
   cases c with
   | ro t' y =>
     simp only[Ee] at h;split at h
     · rename_i e
       subst e;injection h with h;injection h with hx hc;subst hx hc;exact⟨[v],vs,rfl,hr.1.2.move ⟨ANS _,λ_ _ _=>rfl,λk hk hu=>hU k hk hu⟩,hr.2,hm'⟩
     · cases h
   | Bo =>
     simp only[Ee] at h;injection h with h;injection h with hx hc;subst hx hc;have hv:v= .slice none 0 0:=hr.1;subst hv;exact⟨[_],vs,rfl,⟨none,0,rfl,ANS _,APm _,λhn=>absurd hn (AP6 0)⟩,hr.2,hm'⟩
   | own j =>
     simp only[Ee] at h;split at h
     · rename_i ys hy
       injection h with h;injection h with hx hc;subst hx hc;exact⟨[v],vs,rfl,rU I hU hy hr.1 (λe t xs=>hm j e t xs ANH),hr.2,hm'⟩
     · cases h
   | _=>simp[Ee] at h
 | _,_::_,_,_,[],_,_,hr=>hr.elim
theorem Cc.frz {l:List (Nat × AB)} {cs:List AC} (h:Mo hp l) (hi : ∀j e t xs,AC.own j∈cs->hp[j]? =some (.row .mine e t xs)->JF l j=true) (U:Nat->Prop) (ν:Nat->Value):Cc U ν (DB l hp) cs:=by
 intro j e t xs hj hb;rcases FR h j with q | ⟨e',t',xs',q1,q2,_⟩
 · rw[q] at hb
   obtain⟨_,_,_,z⟩:=iX h (hi j e t xs hj hb);rw[q,hb] at z;cases z
 · rw[q2] at hb;cases hb
theorem Mp : ∀ {cs:List AC} {j:Nat} {e:TypeId} {t:Ty} {xs:List (T t)},AC.own j∈cs->hp[j]? =some (.row .mine e t xs)->JF (Kb hp cs) j=true
 | c::cs,j,e,t,xs,hj,hb=>by
   rcases ANM.1 hj with rfl | hj
   · simp[Kb,hb,JF]
   · have ih:=Mp hj hb
     cases c with
     | own i =>
       simp only[Kb];split
       · simp[JF,ih]
       · exact ih
     | _=>exact ih
theorem nH (I:Inv U0 ν tm hp w0 a w) (hU : ∀k,U0 k->k<w0.heap.size) {t:Ty} {cs rest:List AC} {x:T t} {l:List (Nat × AB)} (hl:Mo hp l) (hi : ∀j e t xs,AC.own j∈cs->hp[j]? =some (.row .mine e t xs)->JF l j=true) (h:Ee hp t cs=some (x,rest)) {ν':Nat->Value} (I':Inv U0 ν' tm (DB l hp) w0 a w) {vs:List Value} (hr:CD (CW U0 ν' (lv (DB l hp)) w) cs vs) :
 ∃v1 v2,vs=v1++v2/\Rd (Un U0 ν' (lv (DB l hp))) w t x v1/\CD (CW U0 ν' (lv (DB l hp)) w) rest v2:=by
 obtain⟨v1,v2,h1,h2,h3,_⟩:=Kk I' (U:=Un U0 ν' (lv (DB l hp))) (λ_ _ h=>h) (Cc.frz hl hi _ _) ((ZE hl t cs).trans h) hr;exact⟨v1,v2,h1,h2,h3⟩
theorem mK {α:Type} {Rr:α->List Value->Prop} {sz:Nat} {ps:List α} {cs us:List Value} {q:Nat} {y:α} (h:Bn Rr sz ps cs) (hy:Rr y us) (hu:us.length=sz) (hq:q<ps.length):Bn Rr sz (ps.set q y) (cs.take (q*sz)++us++cs.drop (q*sz+sz)):=by
 have hqs:q*sz+sz<=cs.length:=by rw[h.1,<-AN9];exact ANV _ hq
 refine⟨by have:=h.1;simp only[ANT,ANO,ANo,hu,AN3];omega,λj p hj=> ?_⟩;rcases AQU j q with hlt | heq | hgt
 · have hjs:j*sz+sz<=q*sz:=by rw[<-AN9];exact ANV _ hlt
   rw[ANf (by omega)] at hj;have:=h.2 j p hj;rw[AOJ,AOj (by simp;omega),AOZ (by simp;omega),APp,API,ANb (by omega)];exact this
 · subst heq
   rw[AN2 hq] at hj;injection hj with hj;subst hj;rw[AOJ,APG,ANn (by simp;omega),AO9,ANO,ANb (by omega),AQJ,APY,<-hu,AQP];exact hy
 · have hjs:q*sz+sz<=j*sz:=by rw[<-AN9];exact ANV _ hgt
   rw[ANf (by omega)] at hj;have:=h.2 j p hj;rw[APG,ANn (by simp;omega),AO9,APr,ANT,ANO,hu,ANb (by omega),show q*sz+sz+(j*sz-(q*sz+sz))=j*sz by omega];exact this
theorem nI (L v:List Value) (A n:Nat) (h:A+v.length<=n) (hn:n<=L.length):(L.take A++v++L.drop (A+v.length)).take n=(L.take n).take A++v++(L.take n).drop (A+v.length):=by
 have e1:(L.take A).length=A:=by rw[ANO];omega
 have e2:(L.take n).take A=L.take A:=by rw[API,ANb (by omega)]
 rw[e2,APp,List.take_append,ANT,e1,ANW (l:=L.take A++v) (by rw[ANT,e1];exact h)]
end
end
section
def SV (U:Nat->Prop) (w:World):(ps:List Ty)->TT ps->List Value->Prop
 | [],_,vs=>vs= []
 | t::ts,x,v::vs=>(∃cs,v=Ny cs/\Rd U w t x.1 cs)/\SV U w ts x.2 vs
 | _::_,_,[]=>False
def ia (U:Nat->Prop) (w:World):(rs:List Ty)->TT rs->List Value->Prop
 | [],_,us=>us= []
 | t::ts,x,u::us=>(∃cs,u=Ny cs/\Rd U w t x.1 cs)/\ia U w ts x.2 us
 | _::_,_,[]=>False
def mkR:List Value->Value
 | [u]=>u
 | us=> .tuple us.toArray
def nC (U:Nat->Prop) (w:World) (rs:List Ty) (x:TT rs) (v:Value):Prop:= ∃us,v=mkR us/\ia U w rs x us
def ig (P:Program) (g:FuncId) (s:AT) (k:Nat):Prop:= ∀x r,s.f k x=some r-> ∀(U:Nat->Prop) (w:World) (vs:List Value),(∀q,U q->q<w.heap.size)->SV U w s.ps x vs ->
 Calls P g vs.toArray w (λe w'=> ∃v,e= .returned v/\nC U w' s.rs r v/\Below w.heap.size w w')
def KT (P:Program) (g:FuncId):Bool:=match P.funcs[g]? with
 | some fn => !(fn.name == "runtime.NumGoroutine") && fn.body.isSome
 | none=>false
def iq (U:Nat->Prop) (w:World):(fs:List FK)->FT fs->List Value->List Nat->Prop
 | [],_,us,bl=>us= []/\bl= []
 | .ty t::l,x,us,bl=> ∃v1 v2,us=v1++v2/\Rd U w t x.1 v1/\iq U w l x.2 v2 bl
 | .row _ e t::l,x,u::us,bl=> ∃inner b2,Ow w 0 e (kd t).sz u (List.length x.1) inner/\Bn (λy c=>Rd U w t y c) (kd t).sz x.1 inner/\bl=(C4 u).toList++b2/\iq U w l x.2 us b2
 | .row _ _ _::_,_,[],_=>False
def PM:List FK->List Value->List Value->Prop
 | .ty t::l,us,vs=>PM l (us.drop t.size) (vs.drop t.size)
 | .row true _ _::l,u::us,v::vs=>v=u/\PM l us vs
 | .row false _ _::l,_::us,_::vs=>PM l us vs
 | _,_,_=>True
def rO (U:Nat->Prop) (w:World):(ps:List PK)->PT ps->List Value->List Nat->Prop
 | [],_,vs,bl=>vs= []/\bl= []
 | .ty t::l,x,v::vs,bl=>(∃cs,v=Ny cs/\Rd U w t x.1 cs)/\rO U w l x.2 vs bl
 | .st e fs::l,x,v::vs,bl=> ∃g us b1 b2,v= .pointer (some ⟨g,0,none⟩)/\w.heap[g]? =some (.cells us.toArray e (0,0))/\iq U w fs x.1 us b1/\bl=g::(b1++b2)/\rO U w l x.2 vs b2
 | .KR e t::l,x,v::vs,bl=> ∃inner b2,Ow w 0 e (kd t).sz v (List.length x.1) inner/\Bn (λy c=>Rd U w t y c) (kd t).sz x.1 inner/\bl=(C4 v).toList++b2/\rO U w l x.2 vs b2
 | _::_,_,[],_=>False
def rP (U:Nat->Prop) (w w':World):(ps:List PK)->ET ps->List Value->List Nat->Prop
 | [],_,vs,bl=>vs= []/\bl= []
 | .ty t::l,x,_::vs,bl=>rP U w w' l x vs bl
 | .st e fs::l,x,v::vs,bl=> ∃g us us' b1 b2,v= .pointer (some ⟨g,0,none⟩)/\w.heap[g]? =some (.cells us.toArray e (0,0))/\w'.heap[g]? =some (.cells us'.toArray e (0,0))/\iq U w' fs x.1 us' b1/\PM fs us us'/\bl=g::(b1++b2)/\rP U w w' l x.2 vs b2
 | .KR e t::l,x,v::vs,bl=> ∃inner b2,Ow w' 0 e (kd t).sz v (List.length x.1) inner/\Bn (λy c=>Rd U w' t y c) (kd t).sz x.1 inner/\bl=(C4 v).toList++b2/\rP U w w' l x.2 vs b2
 | _::_,_,[],_=>False
structure But (bl:List Nat) (w w':World):Prop where
 os:w'.os=w.os
 tape:w'.tape=w.tape
 output:w'.output=w.output
 size:w.heap.size<=w'.heap.size
 block : ∀k,k<w.heap.size->k ∉ bl->w'.heap[k]? =w.heap[k]?
def IOk (P:Program) (g:FuncId) (s:Dj) (k:Nat):Prop:= ∀x r,s.f k x=some r-> ∀(U:Nat->Prop) (w:World) (vs:List Value) (bl:List Nat),(∀q,U q->q<w.heap.size)->rO U w s.ps x vs bl->bl.Nodup->(∀q∈bl,U q) ->
 Calls P g vs.toArray w (λe w'=> ∃v fJ,e= .returned v/\nC (λq=>U q\/q∈fJ) w' s.rs r.1 v/\rP (λq=>U q\/q∈fJ) w w' s.ps r.2 vs fJ/\fJ.Nodup/\(∀q∈fJ,(q∈bl\/w.heap.size<=q)/\q<w'.heap.size)/\But bl w w')
def NOk (P:Program) (g:FuncId) (s:mQ) (k:Nat):Prop:= ∀x r,s.f k x=some r-> ∀(U:Nat->Prop) (w:World) (vs:List Value),(∀q,U q->q<w.heap.size)->SV U w s.ps x vs ->
 Calls P g vs.toArray w (λe w'=> ∃v inner,e= .returned v/\Ow w' w.heap.size s.e (kd s.t).sz v r.length inner/\Bn (λy c=>Rd (λq=>U q\/C4 v=some q) w' s.t y c) (kd s.t).sz r inner/\Below w.heap.size w w')
def NfR (U:Nat->Prop) (w:World):(fs:List NF)->NT fs->List Value->Prop
 | [],_,us=>us= []
 | .ty t::l,x,us=> ∃v1 v2,us=v1++v2/\Rd U w t x.1 v1/\NfR U w l x.2 v2
 | .nil::l,x,us=> ∃us',us= .slice none 0 0::us'/\NfR U w l x us'
def POk (P:Program) (g:FuncId) (s:Zi) (k:Nat):Prop:= ∀x r,s.f k x=some r-> ∀(U:Nat->Prop) (w:World) (vs:List Value),(∀q,U q->q<w.heap.size)->SV U w s.ps x vs ->
 Calls P g vs.toArray w (λe w'=> ∃v,e= .returned v/\Below w.heap.size w w'/\((r.1=true/\v= .pointer none)\/(r.1=false/\ ∃b us,v= .pointer (some ⟨b,0,none⟩)/\w.heap.size<=b/\w'.heap[b]? =some (.cells us.toArray s.e (0,0))/\NfR (λq=>U q\/q=b) w' s.fs r.2 us)))
def AGJ (P:Program) (g:FuncId):FE->Nat->Prop
 | .pu s,k=>ig P g s k
 | .io s _,k=>IOk P g s k
 | .nw s,k=>NOk P g s k
 | .np s,k=>POk P g s k
def FP (P:Program) (S:FuncId->Option FE) (k0:Nat):Prop:= ∀g s,S g=some s->KT P g=true/\ ∀k,k<=k0->AGJ P g s k
section
variable {P:Program} {Θ:JE} {S:FuncId->Option FE} {k:Nat} {o:Oper} {U0:Nat->Prop} {ν:Nat->Value} {L:Nat->Prop} {tm:List AV} {hp:List AB} {w0:St} {w:World} {a:Act} {R:Type} {K:AV->HC->Tree R} {r:R}
theorem nJ {w':World} : ∀ {rs:List Ty} {x:TT rs} {us:List Value},ia (Un U0 ν L) w' rs x us->CD (λcs u=> ∃vs,u=Ny vs/\CD (CW U0 ν L w') cs vs) (ym rs x) us
 | [],x,us,h=>by rw[show us= [] from h];trivial
 | t::ts,x,u::us,⟨⟨cs,h1,h2⟩,h3⟩=>⟨⟨cs,h1,Gj t x.1 h2⟩,nJ h3⟩
 | _::_,_,[],h=>h.elim
theorem aC : ∀ {rs:List Ty} {x:TT rs} {U:Nat->Prop} {us:List Value},ia U w rs x us->us.length=rs.length/\(ym rs x).length=rs.length
 | [],x,U,us,h=>by rw[show us= [] from h];exact⟨rfl,rfl⟩
 | t::ts,x,U,u::us,⟨_,h3⟩=>⟨congrArg (· +1) (aC h3).1,congrArg (· +1) (aC h3).2⟩
 | _::_,_,_,[],h=>h.elim
theorem nK {w':World} {rs:List Ty} {x:TT rs} {v:Value} (h:nC (Un U0 ν L) w' rs x v):Fa U0 ν L w' (qz rs x) v:=by
 obtain⟨us,rfl,h⟩:=h;have hr:=nJ h;have hl:=aC h;unfold qz;split
 · rename_i cs hc
   rw[hc] at hr
   match us,hr with
   | [u],hr=>exact hr.1
   | [],hr=>exact hr.elim
   | _::_::_,hr=>exact hr.2.elim
 · rename_i hne
   have:us.length≠1:=λq=>by
    have h2:(ym rs x).length=1:=(by rw[hl.2,<-hl.1,q]);obtain⟨cs,hc⟩:=AQb.1 h2;exact hne cs hc
   refine⟨us, ?_,hr⟩;unfold mkR;split
   · exact absurd rfl this
   · rfl
def AGN (tm:List AV) (os:List Operand) (j:Nat):Prop:= ∃o∈os,AC.own j∈cellsOf (AQ tm o)
theorem QE (I:Inv U0 ν tm hp w0 a w) {U:Nat->Prop} (hU : ∀k,k<w.heap.size->U k->Un U0 ν (lv hp) k) : ∀ {ps:List Ty} {os:List Operand} {x:TT ps},(∀o∈os,Cc U ν hp (cellsOf (AQ tm o)))->args hp tm ps os=some x->SV U w ps x (os.map a.eval)
 | [],[],x,_,h=>rfl
 | t::ts,o::os,x,hm,h=>by
   simp only[args] at h;split at h
   · rename_i cs hc
     split at h
     · rename_i y hy
       split at h
       · rename_i ys hys
         injection h with h;subst h;obtain⟨vs,h1,h2⟩:=hc▸I.AQ o;have hmo:=hm o ANH;rw[hc] at hmo;obtain⟨v1,v2,rfl,q1,q2,_⟩:=Kk I hU hmo hy h2;have:v2= []:=by
          cases v2 with
          | nil=>rfl
          | cons _ _=>exact q2.elim
         subst this;rw[AOa] at h1;exact⟨⟨v1,h1,q1⟩,QE I hU (λo ho=>hm o (ANG _ ho)) hys⟩
       · cases h
     · cases h
   · cases h
 | [],_::_,x,_,h=>by simp[args] at h
 | _::_,[],x,_,h=>by simp[args] at h
theorem Ur {l:List (Nat × AB)} (hl:Mo hp l) : ∀(ps:List Ty) (os:List Operand),args (DB l hp) tm ps os=args hp tm ps os
 | [],[]=>rfl
 | t::ts,o::os=>by simp only[args,ZE hl,Ur hl ts os]
 | [],_::_=>rfl
 | _::_,[]=>rfl
theorem Us : ∀ {os:List Operand} {o:Operand} {j:Nat} {e:TypeId} {t:Ty} {xs:List (T t)},o∈os->AC.own j∈cellsOf (AQ tm o)->hp[j]? =some (.row .mine e t xs)->JF (HZ hp tm os) j=true
 | o'::os,o,j,e,t,xs,ho,hj,hb=>by
   have app : ∀(l l':List (Nat × AB)),JF (l++l') j=(JF l j || JF l' j):=by
    intro l l';induction l with
    | nil=>simp[JF]
    | cons p l ih=>simp[JF,ih,Bool.or_assoc]
   simp only[HZ,app,AOi];rcases ANM.1 ho with rfl | ho
   · exact .inl (Mp hj hb)
   · exact .inr (Us ho hj hb)
theorem aD {U U':Nat->Prop} : ∀ {t:Ty} {x:T t} {cs:List Value},Ua t=true->Rd U w t x cs->Rd U' w t x cs
 | .int _,_,_,_,h=>h
 | .bool,_,_,_,h=>h
 | .str,_,_,_,h=>h
 | .row _ _,_,_,h,_=>by simp[Ua] at h
 | .cons p q,x,cs,h,⟨c0,c1,h1,h2,h3⟩=>by
   simp only[Ua,ANQ] at h;exact⟨c0,c1,h1,aD h.1 h2,aD h.2 h3⟩
theorem fK {U U':Nat->Prop} : ∀ {rs:List Ty} {x:TT rs} {us:List Value},rs.all Ua=true->ia U w rs x us->ia U' w rs x us
 | [],_,_,_,h=>h
 | t::ts,x,u::us,hn,⟨⟨cs,h1,h2⟩,h3⟩=>by
   simp only[APQ,ANQ] at hn;exact⟨⟨cs,h1,aD hn.1 h2⟩,fK hn.2 h3⟩
 | _::_,_,[],_,h=>h.elim
theorem Rm {c:Call} {g:FuncId} (hg:c.callee= .value (.func g)) (ho:o.op= .call c) (hb:KT P g=true):(execOp a.eval o).run P w= .ok (.enter g (c.args.toList.map a.eval).toArray) w:=by
 have hmap:(c.args.toList.map a.eval).toArray=c.args.map a.eval:=by apply AQm;simp
 rw[hmap];unfold KT at hb;split at hb
 · rename_i fn hfn
   simp only[ANQ,AOc] at hb;have he:=uD hfn hb.1 hb.2 (c.args.map a.eval) w;unfold execOp;simp only[ho];cases c with
   | mk callee as ts =>
     simp only at hg;subst hg;simp[resolve,Deferred.ofValue,invoke,Act.eval,he]
 · cases hb
theorem ACV (hS:FP P S k) (I:Inv U0 ν tm hp w0 a w) (hU : ∀q,U0 q->q<w0.heap.size) {c:Call} {g:FuncId} (hg:c.callee= .value (.func g)) (ho:o.op= .call c) {s:AT} (hs:S g=some (.pu s)) {x:TT s.ps} (hx:args hp tm s.ps c.args.toList=some x) (h:(Tree.dR (s.f k x) λr=>K (qz s.rs r) ⟨none,if s.rs.all Ua=true then[] else HZ hp tm c.args.toList⟩).run=some r):CX P Θ S k o U0 ν tm hp w0 a w K r:=by
 obtain⟨y,hf,h⟩:=Tree.Rf h;refine⟨_,_,h, ?_⟩;intro hh next Q hn
 obtain⟨hb,hk⟩:=hS g _ hs;have hrun:(execOp a.eval o).run P w= .ok (.enter g (c.args.toList.map a.eval).toArray) w:=Rm hg ho hb;unfold Oper.wp;rw[hrun];have zh : ∀(B0:List AB) (ν':Nat->Value),Inv U0 ν' tm B0 w0 a w-> ∀q,Un U0 ν' (lv B0) q->q<w.heap.size:=λB0 ν' I' q hq=>by
  rcases hq with hq | ⟨j,hj,hb⟩
  · exact AOB (hU q hq) I'.fr.size
  · exact(I'.lt hj hb).1
 have fin : ∀(B0:List AB) (ν':Nat->Value) (U:Nat->Prop),Inv U0 ν' tm B0 w0 a w->(∀q,U q->q<w.heap.size)->SV U w s.ps x (c.args.toList.map a.eval)->(∀w' v,nC U w' s.rs y v->nC (Un U0 ν' (lv B0)) w' s.rs y v) ->
  (∀ν' v w',Inv U0 ν' (Lj tm o.dst (qz s.rs y)) B0 w0 (a.put o.dst v) w'->next (a.put o.dst v) w')->o.upon P a next Q (.ok (.enter g (c.args.toList.map a.eval).toArray) w):=by
  intro B0 ν' U I' hUw zW hres hn;rw[Oper.upon_enter];refine(hk k (ANS _) x y hf U w _ hUw zW).mono λe w' hh=> ?_
  obtain⟨v,rfl,hr,Pt⟩:=hh;show next (a.put o.dst v) w'
  exact hn ν' v w' (I'.go o.dst _ v Pt.size Pt.block (λj hj q hq=>(I'.lt hj hq).1) (nK (hres w' v hr)) (I'.fr.step Pt))
 by_cases hnr:s.rs.all Ua=true
 · rw[if_pos hnr] at hn
   refine fin hp ν (λq=>Un U0 ν (lv hp) q/\ ¬ ∃j,AGN tm c.args.toList j/\lv hp j/\C4 (ν j)=some q) I (λq hq=>zh hp ν I q hq.1) (QE I (λq _ hq=>hq.1) (λo' ho' j e t xs hj hb q hq hu=>hu.2 ⟨j,⟨o',ho',hj⟩,⟨_,hb,rfl⟩,hq⟩) hx) (λw' v ⟨us,h1,h2⟩=>⟨us,h1,fK hnr h2⟩) hn
 · rw[if_neg hnr] at hn
   have hfz:=Uq (hp:=hp) (tm:=tm) c.args.toList;obtain⟨ν',I'⟩:=I.IA hU hfz;exact fin (DB (HZ hp tm c.args.toList) hp) ν' (Un U0 ν' (lv (DB (HZ hp tm c.args.toList) hp))) I' (λq hq=>zh _ ν' I' q hq) (QE I' (λq _ hq=>hq) (λo' ho'=>Cc.frz hfz (λj e t xs hj hb=>Us ho' hj hb) _ _) ((Ur hfz _ _).trans hx)) (λ_ _ z=>z) hn
theorem ACW {c:Call} {b:Builtin} {x:Operand} {t:TypeId} (hc:c.callee= .builtin b) (hxs:c.args.toList= [x]) (hts:c.argTypes.toList= [t]):c= {callee:= .builtin b,args:= #[x],argTypes:= #[t]} :=by
 cases c with
 | mk callee as ts =>
   simp only at hc hxs hts;subst hc
   congr 1
   · exact AP1.1 hxs
   · exact AP1.1 hts
theorem aE {c:Call} {b:Builtin} {x y:Operand} (hc:c.callee= .builtin b) (hxs:c.args.toList= [x,y]):c= {callee:= .builtin b,args:= #[x,y],argTypes:=c.argTypes} :=by
 cases c with
 | mk callee as ts =>
   simp only at hc hxs;subst hc
   congr 1
   exact AP1.1 hxs
theorem ZF {x:Operand} {t:TypeId} {d:TypeDesc} {A:Option Addr} {n c:Nat} {e:TypeId} (ho:o.op= .call {callee:= .builtin .len,args:= #[x],argTypes:= #[t]}) (hd:P.underlying t=some (.slice e)) (hx:a.eval x= .slice A n c):(execOp a.eval o).run P w= .ok (.value (.int .i64 n)) w:=by
 simp only[execOp,ho,resolve];simp[invoke,builtin,hx,Builtin.len_,run_underlying hd,goInt]
theorem AEv (hΘ:Θ.ok P=true) (I:Inv U0 ν tm hp w0 a w) {c:Call} (hc:c.callee= .builtin .len) (ho:o.op= .call c) (h:(stepT Θ S k tm hp o.dst (.call c) K).run=some r):CX P Θ S k o U0 ν tm hp w0 a w K r:=by
 simp only[stepT,hc] at h;split at h
 · rename_i x t hxs hts
   have hop:o.op= .call {callee:= .builtin .len,args:= #[x],argTypes:= #[t]} :=(by rw[ho,ACW hc hxs hts]);have ks : ∀ {i:TI} {e':TypeId},ti Θ t=some i->i.kind= .slice e'->P.underlying t=some (.slice e'):=λhi hk=>by
    obtain⟨_,d,_,hd,_,_,hB,_⟩:=BO hΘ hi;rw[hk] at hB;rw[IE hB] at hd;exact hd
   split at h
   · rename_i e t' xs i hx hi
     split at h
     · rename_i e' hk
       have hv:CW U0 ν (lv hp) w (.ro (.row e t') xs) (a.eval x):=val_one (hx▸I.AQ x);obtain⟨A,cc,dQ,_⟩:=hv.2;exact⟨_,_,h,Ab I (ZF (d:= .bool) hop (ks hi hk) (AOM dQ).1) (Hh .i64 _)⟩
     · cases h
   · rename_i i hx hi
     split at h
     · rename_i e' hk
       have hv:CW U0 ν (lv hp) w .Bo (a.eval x):=val_one (hx▸I.AQ x);have hv:a.eval x= .slice none 0 0:=hv;exact⟨_,_,h,Ab I (ZF (d:= .bool) hop (ks hi hk) hv) (Hh .i64 0)⟩
     · cases h
   · rename_i j i hx hi
     split at h
     · rename_i e' hk
       have hv:CW U0 ν (lv hp) w (.own j) (a.eval x):=val_one (hx▸I.AQ x);split at h
       · rename_i e t' xs hb
         obtain⟨_,A,n,h2⟩:=(I.mem j _ hb rfl).LI (U:=λ_=>False) (λ_ _ z=>z.elim);exact⟨_,_,h,Ab I (ZF (d:= .bool) hop (ks hi hk) (show a.eval x= .slice A (List.length xs) n by rw[hv.2,h2];rfl)) (Hh .i64 _)⟩
       · rename_i e t' xs hb
         obtain⟨v,h1,A,n,h2,_⟩:=I.mem j _ hb rfl;exact⟨_,_,h,Ab I (ZF (d:= .bool) hop (ks hi hk) (show a.eval x= .slice A (List.length xs) n by rw[hv.2,h1];exact(AOM h2).1)) (Hh .i64 _)⟩
       · cases h
     · cases h
   · rename_i s i hx hi
     split at h
     · rename_i hk
       have hv:=Zp (hx▸I.AQ x);obtain⟨_,d,_,hd,_,_,hB,_⟩:=BO hΘ hi;rw[hk] at hB;rw[Ue hB] at hd;refine⟨_,_,h,Ab I ?_ (Hh .i64 _)⟩;simp only[execOp,hop,resolve];simp[invoke,builtin,hv,Builtin.len_,run_underlying hd,goInt]
     · cases h
   · cases h
 · cases h
theorem AEw (I:Inv U0 ν tm hp w0 a w) {c:Call} (hc:c.callee= .builtin .max) (ho:o.op= .call c) (h:(stepT Θ S k tm hp o.dst (.call c) K).run=some r):CX P Θ S k o U0 ν tm hp w0 a w K r:=by
 simp only[stepT,hc] at h;split at h
 · rename_i x y hxs
   rw[aE hc hxs] at ho;split at h
   · rename_i kk m kk' n hx hy
     have h1:=Fc (hx▸I.AQ x);have h2:=Fc (hy▸I.AQ y);refine⟨_,_,h,Ab I ?_ (Hh kk _)⟩;simp only[execOp,ho,resolve];simp[invoke,builtin,Builtin.max_,h1,h2,Zd,mx]
   · cases h
 · cases h
theorem AEx (I:Inv U0 ν tm hp w0 a w) {c:Call} (hc:c.callee= .builtin .min) (ho:o.op= .call c) (h:(stepT Θ S k tm hp o.dst (.call c) K).run=some r):CX P Θ S k o U0 ν tm hp w0 a w K r:=by
 simp only[stepT,hc] at h;split at h
 · rename_i x y hxs
   rw[aE hc hxs] at ho;split at h
   · rename_i kk m kk' n hx hy
     have h1:=Fc (hx▸I.AQ x);have h2:=Fc (hy▸I.AQ y);refine⟨_,_,h,Ab I ?_ (Hh kk _)⟩;simp only[execOp,ho,resolve];simp[invoke,builtin,Builtin.min_,h1,h2,Ze,mn]
   · cases h
 · cases h
end
end
section
theorem splice (off:Nat) : ∀(xs:List Value) (j:Nat) (cs:List Value),off+j+xs.length<=cs.length ->
 ((xs.zipIdx j).foldl (λ(q:Array Value) (p:Value × Nat)=>q.setIfInBounds (off+p.2) p.1) cs.toArray)=(cs.take (off+j)++xs++cs.drop (off+j+xs.length)).toArray
 | [],j,cs,_=>by simp
 | x::xs,j,cs,h=>by
   simp only[List.zipIdx_cons,List.foldl_cons,AO1];simp only[ANt] at h;rw[splice off xs (j+1) (cs.set (off+j) x) (by simp;omega)]
   congr 1
   apply AOP;intro m;simp only[AO8,ANT,ANO,AN3,ANt,ANg,ANj,APS];have hl:off+j<cs.length:=(by omega);rcases AQU m (off+j) with hm | hm | hm
   · simp[show m<min (off+(j+1)) cs.length+xs.length by omega,show m<min (off+(j+1)) cs.length by omega,show m<off+(j+1) by omega,show m<min (off+j) cs.length+(xs.length+1) by omega,show m<min (off+j) cs.length by omega,show m<off+j by omega,show off+j≠m by omega]
   · subst hm
     simp[show off+j<min (off+(j+1)) cs.length+xs.length by omega,show off+j<min (off+(j+1)) cs.length by omega,show off+j<off+(j+1) by omega,show off+j<min (off+j) cs.length+(xs.length+1) by omega,show¬off+j<min (off+j) cs.length by omega,hl,show off+j-min (off+j) cs.length=0 by omega]
   · by_cases hm2:m<off+(j+1)+xs.length
     · simp[show m<min (off+(j+1)) cs.length+xs.length by omega,show¬m<min (off+(j+1)) cs.length by omega,show m<min (off+j) cs.length+(xs.length+1) by omega,show¬m<min (off+j) cs.length by omega,show m-min (off+j) cs.length=(m-min (off+(j+1)) cs.length)+1 by omega]
     · simp[show¬m<min (off+(j+1)) cs.length+xs.length by omega,show¬m<min (off+j) cs.length+(xs.length+1) by omega,show off+(j+1)+xs.length+(m-(min (off+(j+1)) cs.length+xs.length))=off+j+(xs.length+1)+(m-(min (off+j) cs.length+(xs.length+1))) by omega]
       intro hc;exact absurd hc (by omega)
section
variable {P:Program} {Θ:JE} {S:FuncId->Option FE} {k:Nat} {o:Oper} {U0:Nat->Prop} {ν:Nat->Value} {tm:List AV} {hp:List AB} {w0:St} {w:World} {a:Act} {R:Type} {K:AV->HC->Tree R} {r:R}
theorem Ut (I:Inv U0 ν tm hp w0 a w) {place:Nat->Option (Nat × Nat)} : ∀ {ps:List (Nat × Operand)} {cs out:List AC} {vs:List Value},Lo place cs (ps.map λp=>(p.1,AQ tm p.2))=some out->CD (CW U0 ν (lv hp) w) cs vs ->
 ∃us,Instr.fill place vs.toArray (ps.map λp=>(p.1,a.eval p.2))=some us.toArray/\CD (CW U0 ν (lv hp) w) out us
 | [],cs,out,vs,h,hr=>by
   simp only[AQG,Lo] at h;injection h with h;subst h;exact⟨vs,rfl,hr⟩
 | (i,x)::ps,cs,out,vs,h,hr=>by
   simp only[ANx] at h;cases hx:AQ tm x with
   | val xs =>
     rw[hx] at h;simp only[Lo] at h;split at h
     · rename_i off sz hpl
       split at h
       · rename_i hc
         obtain⟨us,e1,e2,e3,e4⟩:=(hx▸I.AQ x:Fa U0 ν (lv hp) w (.val xs) (a.eval x)).cells I;have hl:=hr.len;have hu:=e3.len;have nL:CD (CW U0 ν (lv hp) w) (cs.take off++xs++cs.drop (off+sz)) (vs.take off++us++vs.drop (off+sz)):=((hr.take off).app e3).app (hr.drop (off+sz));obtain⟨zs,q1,q2⟩:=Ut I h nL;refine⟨zs, ?_,q2⟩;simp only[ANx,Instr.fill,hpl];rw[e2];rw[if_neg (by simp;omega)];have:=splice off us 0 vs (by omega);simp only[AQH] at this;rw[show off+us.length=off+sz by omega] at this;rw[<-q1,<-this]
         congr 1
         rw[<-Array.foldl_toList];simp
       · cases h
     · cases h
   | un=>rw[hx] at h;simp[Lo] at h
   | tup _=>rw[hx] at h;simp[Lo] at h
   | FA=>rw[hx] at h;simp[Lo] at h
theorem zl (hΘ:Θ.ok P=true) (I:Inv U0 ν tm hp w0 a w) {t:TypeId} {ps:Array (Nat × Operand)} (ho:o.op= .build t ps) (h:(stepT Θ S k tm hp o.dst (.build t ps) K).run=some r):CX P Θ S k o U0 ν tm hp w0 a w K r:=by
 simp only[stepT] at h;split at h
 · rename_i i hi
   split at h
   · rename_i fs hk
     split at h;rotate_left
     · cases h
     rename_i hpl;split at h
     · rename_i out hf
       split at h
       · cases h
       · rename_i hn1
         obtain⟨f,d,SW,hd,_,_,hB,_,_,z,hz,l9⟩:=BO hΘ hi;rw[hk] at hB;obtain⟨fields,rfl,hg⟩:=Lr hB;have hr:CD (CW U0 ν (lv hp) w) i.zero z:=Kj l9;obtain⟨us,q1,q2⟩:=Ut I hf hr;have h4 : ∀u∈z,u.oneCell'=true:=λu hu=>by
          obtain⟨c,_,hr⟩:=hr.mem u hu;exact hr.one I.iF
         refine⟨_,_,h,Ab I (v:= .agg us.toArray) ?_ ⟨us,(WR (by rw[<-q2.len];exact hn1)).symm,q2⟩⟩;have hb:P.built t (ps.map λp=>(p.1,a.eval p.2)).toList=some us.toArray:=by
          unfold Program.built;simp only[SW,hd,hz];have hmap:fields.toList.mapM (λf=>(P.info? f.type).map λi=>(f.offset,i.size))=some fs:=by
           rw[<-hg] at hpl ⊢;generalize fields.toList=l at *;clear hg hf hd;induction l with
           | nil=>rfl
           | cons f l ih =>
             simp only[ANx,APQ,ANQ,bne_iff_ne] at hpl;cases hq:P.info? f.type with
             | none=>simp[hq] at hpl
             | some j=>simp[hq,ih hpl.2,AQO]
          simp only[hmap,Fe h4];rw[<-q1]
          congr 1
          · funext q;simp
          · simp
         simp only[execOp,ho];have:=run_build (P:=P) w t (ps.map λp=>(p.1,a.eval p.2)) us.toArray hb;simp[this]
     · cases h
   · rename_i n e hk
     split at h
     · rename_i ze hze
       split at h
       · rename_i out hf
         split at h
         · cases h
         · rename_i hn1
           obtain⟨f,d,SW,hd,_,_,hB,_,_,z,hz,l9⟩:=BO hΘ hi;rw[hk] at hB;rw[Zq hB] at hd;obtain⟨fe,_,hfe,_,hse,_⟩:=BO hΘ hze;have hr:CD (CW U0 ν (lv hp) w) i.zero z:=Kj l9;obtain⟨us,q1,q2⟩:=Ut I hf hr;have h4 : ∀u∈z,u.oneCell'=true:=λu hu=>by
            obtain⟨c,_,hr⟩:=hr.mem u hu;exact hr.one I.iF
           refine⟨_,_,h,Ab I (v:= .agg us.toArray) ?_ ⟨us,(WR (by rw[<-q2.len];exact hn1)).symm,q2⟩⟩;have hb:P.built t (ps.map λp=>(p.1,a.eval p.2)).toList=some us.toArray:=by
            unfold Program.built;simp only[SW,hd,hz,hfe,hse,Fe h4];rw[<-q1]
            congr 1
            simp
           simp only[execOp,ho];have:=run_build (P:=P) w t (ps.map λp=>(p.1,a.eval p.2)) us.toArray hb;simp[this]
       · cases h
     · cases h
   · cases h
 · cases h
theorem QF {l:List (Nat × AB)} (hl:Mo hp l) {t:Ty} : ∀(n:Nat) (cs:List AC),rows (DB l hp) t n cs=rows hp t n cs
 | 0,[]=>rfl
 | 0,_::_=>rfl
 | n+1,cs=>by simp only[rows,ZE hl,QF hl n]
theorem QG (I:Inv U0 ν tm hp w0 a w) {t:Ty} : ∀ {n:Nat} {cs:List AC} {xs:List (T t)} {vs:List Value},Cc (Un U0 ν (lv hp)) ν hp cs->rows hp t n cs=some xs->CD (CW U0 ν (lv hp) w) cs vs->xs.length=n/\vs.length=n*t.size/\ ∀(j:Nat) (p:T t),xs[j]? =some p->Rd (Un U0 ν (lv hp)) w t p ((vs.drop (j*t.size)).take t.size)
 | 0,[],xs,vs,_,h,hr=>by
   simp only[rows] at h;injection h with h;subst h;have:vs= []:=by
    cases vs with
    | nil=>rfl
    | cons _ _=>exact hr.elim
   subst this;exact⟨rfl,by simp,λj p hj=>by simp at hj⟩
 | 0,_::_,xs,vs,_,h,hr=>by simp[rows] at h
 | n+1,cs,xs,vs,hm,h,hr=>by
   simp only[rows] at h;split at h
   · rename_i x cs' hx
     split at h
     · rename_i ys hy
       injection h with h;subst h;obtain⟨v1,v2,rfl,q1,q2,q3⟩:=Kk I (λ_ _ h=>h) hm hx hr;obtain⟨z1,z2,z3⟩:=QG I q3 hy q2;have hl:v1.length=t.size:=(by rw[(kd t).Dr q1.K,Ey]);refine⟨by simp[z1],by rw[ANT,hl,z2,AO5];omega,λj p hj=> ?_⟩;cases j with
       | zero =>
         simp only[AOf] at hj;injection hj with hj;subst hj;rw[Nat.zero_mul,APY,<-hl,AQP];exact q1
       | succ j =>
         simp only[AOW] at hj;have:=z3 j p hj;rw[AO5,Nat.one_mul,APv,<-hl,<-APr,AQM,hl];exact this
     · cases h
   · cases h
theorem fM {zs:List AC} {z:List Value} (h:CD (CW U0 ν (lv hp) w) zs z) : ∀n:Nat,CD (CW U0 ν (lv hp) w) ((List.range n).flatMap λ_=>zs) ((List.range n).flatMap λ_=>z)
 | 0=>trivial
 | n+1=>by
   rw[AP8,AOz,AOz];exact(fM h n).app (by simpa using h)
theorem nM {z:List Value} {sz:Nat} (hl:z.length=sz) (hs:0<sz) : ∀n:Nat,(Array.range (n*sz)).map (λi=>z.toArray[i%z.toArray.size]!)=((List.range n).flatMap λ_=>z).toArray:=by
 intro n;apply AQm;simp only[Array.toList_map,Array.toList_range];induction n with
 | zero=>simp
 | succ n ih =>
   rw[AP8,AOz,AO5,Nat.one_mul,List.range_add,AOe,ih]
   congr 1
   apply List.ext_getElem
   · simp[hl]
   · intro i h1 h2
     simp at h1 h2 ⊢;have:(n*sz+i)%sz=i:=(by rw[APB,Nat.mul_add_mod];exact APz h1);rw[hl,this];simp[show i<z.length by omega]
theorem size_pos : ∀t:Ty,0<t.size
 | .cons a b=>AOB (size_pos a) (Nat.le_add_right _ _)
 | .int _=>Nat.one_pos
 | .bool=>Nat.one_pos
 | .str=>Nat.one_pos
 | .row _ _=>Nat.one_pos
theorem AEy {U:Nat->Prop} {e:TypeId} {ty:Ty} {xs:List (T ty)} {us:List Value} (hU : ∀q,U q->q<w.heap.size) (h : ∀(j:Nat) (p:T ty),xs[j]? =some p->Rd U w ty p ((us.drop (j*ty.size)).take ty.size)) (hl:List.length xs<=9223372036854775807) :
 Rd U (w.alloc (.cells us.toArray e (0,0))) (.row e ty) xs [.slice (some ⟨w.heap.size,0,none⟩) (List.length xs) (List.length xs)]:=by
 have m:Move U w (w.alloc (.cells us.toArray e (0,0))) U:=⟨by simp,λq hq _=>Below.heap_alloc _ _ _ hq,λ_ _ z=>z⟩;refine⟨_,_,rfl,ANS _,hl,λ_=>⟨_,rfl,λj p hj=>⟨_,(h j p hj).move m,λi u hu W hs2 l6=> ?_⟩⟩⟩;have wR:W.heap[w.heap.size]? =some (.cells us.toArray e (0,0)):=by
  rw[l6 w.heap.size (by simp) (λq=>absurd (hU _ q) (by omega))];exact heap_alloc_new w _
 show W.cell? _=_;rw[Hf,Ik wR];rw[ANg] at hu;split at hu
 · rw[ANj] at hu
   simpa using hu
 · cases hu
theorem dV (hΘ:Θ.ok P=true) (I:Inv U0 ν tm hp w0 a w) (hU : ∀q,U0 q->q<w0.heap.size) {t:TypeId} {n:Nat} {ps:Array (Nat × Operand)} (ho:o.op= .buildSlice t n ps) (h:(stepT Θ S k tm hp o.dst (.buildSlice t n ps) K).run=some r):CX P Θ S k o U0 ν tm hp w0 a w K r:=by
 simp only[stepT] at h;split at h
 · rename_i i hi
   split at h
   · rename_i e hk
     split at h
     · rename_i zi hzi
       split at h
       · rename_i ty hty
         split at h
         · rename_i hsz
           split at h
           · rename_i out q hf hq
             split at h
             · rename_i xs hxs
               obtain⟨_,d,_,hd,_,_,hB,_⟩:=BO hΘ hi;rw[hk] at hB;rw[IE hB] at hd;obtain⟨f,_,SW,_,hs,_,_,_,hzl,z,hz,l9⟩:=BO hΘ hzi;have hfz:=KS (hp:=hp) out;have run : ∀ {B0:List AB} {ν':Nat->Value},Inv U0 ν' tm B0 w0 a w-> ∃us,CD (CW U0 ν' (lv B0) w) out us/\(execOp a.eval o).run P w= .ok (.value (.slice (some ⟨w.heap.size,0,none⟩) n n)) (w.alloc (.cells us.toArray e (0,0))):=by
                intro B0 ν' I';have hzr:CD (CW U0 ν' (lv B0) w) zi.zero z:=Kj l9;have h4 : ∀u∈z,u.oneCell'=true:=λu hu=>by
                 obtain⟨c,_,hr⟩:=hzr.mem u hu;exact hr.one I'.iF
                obtain⟨us,q1,q2⟩:=Ut I' hf (fM hzr n);have AGO:z.length=zi.size:=(by rw[<-hzr.len,hzl]);have hpos:0<ty.size:=size_pos ty;refine⟨us,q2, ?_⟩;have hs1:(sizeOf e).run P w= .ok zi.size w:=(by simp[sizeOf,typeInfo,SW,hs]);have hz1:(zeroValue e).run P w= .ok (Ny z) w:=(by simp[zeroValue,typeInfo,SW,hz]);have hle : ¬n*zi.size>2^24:=(by have:=hsz.2.1;omega);have hfl:Instr.fill (λi=>some (i*zi.size,zi.size)) ((List.range n).flatMap λ_=>z).toArray (ps.map λp=>(p.1,a.eval p.2)).toList=some us.toArray:=by
                 rw[<-q1];congr 1;simp
                simp only[execOp,ho];by_cases h0:n*zi.size=0
                · have hn:n=0:=by
                   have:=hsz.1;rcases Nat.mul_eq_zero.1 h0 with h0 | h0
                   · exact h0
                   · omega
                  subst hn;simp at hfl;have Uu:Array.range 0= #[]:=rfl;simp[Instr.buildSlice,run_underlying hd,hs1,newRow,Uu];simp[hfl]
                · have l9:=nM (n:=n) AGO (by have:=hsz.1;omega)
                  simp[Instr.buildSlice,run_underlying hd,hs1,hz1,hle,h0,Fe h4,newRow];simp at l9 hfl;simp[l9,hfl]
               split at h
               · rename_i hn0
                 obtain⟨us,q2,hrun⟩:=run I;refine⟨_,_,h, ?_⟩;intro hh next Q hn
                 unfold Oper.wp;rw[hrun];rw[hq] at hh hn;obtain⟨hg,hb,_⟩:=Mq hh;show next (a.put o.dst _) _
                 rw[hq];refine hn (upd ν q (.slice (some ⟨w.heap.size,0,none⟩) n n)) _ _ (I.new hU hg hb (by simp) (λk hk=>Below.heap_alloc _ _ _ hk) (λk hk=> ?_) (I.fr.alloc _) (λm hL=> ?_) _)
                 · injection hk with hk
                   have hk:w.heap.size=k:=hk;omega
                 · obtain⟨r1,r2,_⟩:xs.length=n/\us.length=0/\True:=by
                    subst hn0;have qT:out= []/\xs= []:=by
                     cases out with
                     | nil=>simp only[rows] at hxs;injection hxs with hxs;exact⟨rfl,hxs.symm⟩
                     | cons _ _=>simp[rows] at hxs
                    refine⟨by rw[qT.2];rfl,by rw[<-q2.len,qT.1];rfl,trivial⟩
                   subst hn0;have hxn:xs= []:=AN4 r1;have hun:us= []:=AN4 r2;subst hxn hun;refine⟨⟨⟨[], ?_,Bn.none _ _⟩,λk hk=>by rw[BQ] at hk;injection hk with hk;exact hk▸I.fr.size⟩,D3 (c:= .own q) ⟨((D4 hg hb).1 q).2 (.inr rfl),by rw[BQ];rfl⟩⟩;rw[BQ];exact⟨by simp, .inr ⟨w.heap.size,0,#[],rfl,I.fr.size,heap_alloc_new w _,ANS _,by unfold maxLen;omega,by simp,by simp⟩⟩
               · obtain⟨ν',I'⟩:=I.IA hU hfz
                 obtain⟨us,q2,hrun⟩:=run I';obtain⟨r1,r2,r3⟩:=QG I' (Cc.frz hfz (λj e t xs hj hb=>Mp hj hb) _ _) ((QF hfz n out).trans hxs) q2;refine⟨_,_,h, ?_⟩;intro hh next Q hn
                 unfold Oper.wp;rw[hrun];show next (a.put o.dst _) _
                 have hlt : ∀q,Un U0 ν' (lv (DB (Kb hp out) hp)) q->q<w.heap.size:=λq hq=>by
                  rcases hq with hq | ⟨j,hj,hb⟩
                  · exact AOB (hU q hq) I.fr.size
                  · exact(I'.lt hj hb).1
                 have nB:List.length xs<=9223372036854775807:=by
                  have h2:=hsz.2.1;have h1:=hsz.1;have:=size_pos ty;have:n<=n*zi.size:=AOo _ (by omega);omega
                 refine hn ν' _ _ (I'.go o.dst _ _ (by simp) (λq hq=>Below.heap_alloc _ _ _ hq) (λj hj q hq=>(I'.lt hj hq).1) (D3 (c:= .ro (.row e ty) xs) ⟨rfl, ?_⟩) (I.fr.alloc _));have:=AEy (e:=e) hlt r3 nB;rw[r1] at this;exact this
             · cases h
           · cases h
         · cases h
       · cases h
     · cases h
   · cases h
 · cases h
theorem AEz (hΘ:Θ.ok P=true) (I:Inv U0 ν tm hp w0 a w) (hU : ∀q,U0 q->q<w0.heap.size) {e:TypeId} {x:Operand} (ho:o.op= .box e x) (h:(stepT Θ S k tm hp o.dst (.box e x) K).run=some r):CX P Θ S k o U0 ν tm hp w0 a w K r:=by
 simp only[stepT] at h;split at h
 · rename_i cs t hx hd
   have flat:(K (.val [.ptr t 0]) ⟨some (.cells .mine e cs),[]⟩).run=some r->CX P Θ S k o U0 ν tm hp w0 a w K r:=λh=>by
    obtain⟨vs,h1,h2,h3,h4⟩:=(hx▸I.AQ x:Fa U0 ν (lv hp) w (.val cs) (a.eval x)).cells I;refine⟨_,_,h,nG I hU hd h3 ?_⟩;simp only[execOp,ho];simp[Instr.box,newVar,newRow,h2]
   split at h
   · rename_i i hi
     split at h
     · rename_i n e' hk
       split at h
       · rename_i z hz
         split at h
         · rename_i ty hty
           split at h
           · rename_i hsz
             split at h
             · rename_i xs hxs
               have hfz:=KS (hp:=hp) cs;obtain⟨ν',I'⟩:=I.IA hU hfz;obtain⟨us,h1,h2,h3,h4⟩:=(hx▸I'.AQ x:Fa U0 ν' (lv (DB (Kb hp cs) hp)) w (.val cs) (a.eval x)).cells I';obtain⟨r1,r2,r3⟩:=QG I' (Cc.frz hfz (λj e t xs hj hb=>Mp hj hb) _ _) ((QF hfz n cs).trans hxs) h3;refine⟨_,_,h, ?_⟩;intro hh next Q hn
               have hrun:(execOp a.eval o).run P w= .ok (.value (.pointer (some ⟨w.heap.size,0,none⟩))) (w.alloc (.cells us.toArray e (0,0))):=by
                simp only[execOp,ho];simp[Instr.box,newVar,newRow,h2]
               unfold Oper.wp;rw[hrun];rw[hd] at hh hn;obtain⟨hg,hb,_⟩:=Mq hh;have hg':(DB (Kb hp cs) hp)[t]? =some .gone:=by
                rcases FR hfz t with q | ⟨_,_,_,q,_⟩
                · rw[q,hg]
                · rw[hg] at q;cases q
               show next (a.put o.dst _) _
               rw[hd];refine hn (upd ν' t (.slice (some ⟨w.heap.size,0,none⟩) n n)) _ _ (I'.new hU hg' hb (by simp) (λk hk=>Below.heap_alloc _ _ _ hk) (λk hk=> ?_) (I'.fr.alloc _) (λm hL=> ?_) _)
               · injection hk with hk
                 have hk:w.heap.size=k:=hk;omega
               · have hlen:us.length=List.length xs*(kd ty).sz:=by rw[r2,r1,Ey]
                 have hn0:n<=1000:=hsz.2.2.1;refine⟨⟨⟨us, ?_,hlen,λj p hj=> ?_⟩,λk hk=>by rw[BQ] at hk;injection hk with hk;exact hk▸I'.fr.size⟩,D3 (c:= .Hg t) ⟨((D4 hg' hb).1 t).2 (.inr rfl),_,_,_,by rw[BQ];rfl,rfl⟩⟩
                 · rw[BQ,r1]
                   exact⟨by rw[hlen,r1], .inr ⟨w.heap.size,n,us.toArray,rfl,I'.fr.size,heap_alloc_new w _,ANS _,by unfold maxLen;omega,by simp[hlen,r1],ANW (by simp[hlen,r1])⟩⟩
                 · rw[Ey]
                   exact(r3 j p hj).move m
             · cases h
           · cases h
         · cases h
       · cases h
     · exact flat h
   · exact flat h
 · cases h
theorem Uv {U L:Nat->Prop} : ∀ {t:Ty} {cs rest:List AC} {vs:List Value},J3 t cs=some rest->CD (CW U0 ν L w) cs vs-> ∃v1 v2,vs=v1++v2/\Rd U w t (dflt t) v1/\CD (CW U0 ν L w) rest v2
 | .cons p q,cs,rest,vs,h,hr=>by
   simp only[J3] at h;split at h
   · rename_i cs1 h1
     obtain⟨v1,v2,rfl,q1,q2⟩:=Uv h1 hr;obtain⟨v3,v4,rfl,q3,q4⟩:=Uv h q2;exact⟨v1++v3,v4,(AOJ ..).symm,⟨v1,v3,rfl,q1,q3⟩,q4⟩
   · cases h
 | .row e t,c::cs,rest,v::vs,h,hr=>by
   cases c<;>simp only[J3] at h<;>try (simp at h;done)
   injection h with h;subst h;have hv:v= .slice none 0 0:=hr.1;subst hv;exact⟨[_],vs,rfl,⟨none,0,rfl,ANS _,APm _,λhn=>absurd hn (AP6 0)⟩,hr.2⟩
 | .int k,c::cs,rest,v::vs,h,hr=>by
   cases c with
   | ro t x =>
     cases t<;>simp only[J3] at h<;>try (simp at h;done)
     split at h
     · rename_i q
       injection h with h;subst h;obtain⟨rfl,hx⟩:=q;have hv:=(AOM hr.1.2).1;refine⟨[v],vs,rfl, ?_,hr.2⟩;rw[hv,hx];rfl
     · cases h
   | _=>simp[J3] at h
 | .bool,c::cs,rest,v::vs,h,hr=>by
   cases c with
   | ro t x =>
     cases t<;>simp only[J3] at h<;>try (simp at h;done)
     split at h
     · rename_i hx
       injection h with h;subst h;have hv:=(AOM hr.1.2).1;refine⟨[v],vs,rfl, ?_,hr.2⟩;rw[hv,hx];rfl
     · cases h
   | _=>simp[J3] at h
 | .str,c::cs,rest,v::vs,h,hr=>by
   cases c with
   | ro t x =>
     cases t<;>simp only[J3] at h<;>try (simp at h;done)
     split at h
     · rename_i hx
       injection h with h;subst h;have hv:=(AOM hr.1.2).1;refine⟨[v],vs,rfl, ?_,hr.2⟩;have:(x:ByteArray)=⟨#[]⟩:=by
        cases hb:(x:ByteArray) with
        | mk b =>
          rw[hb] at hx
          congr 1
          exact Array.eq_empty_of_size_eq_zero (by simpa using hx)
       rw[hv,this];rfl
     · cases h
   | _=>simp[J3] at h
 | .row _ _,[],_,_,h,_=>by simp[J3] at h
 | .int _,[],_,_,h,_=>by simp[J3] at h
 | .bool,[],_,_,h,_=>by simp[J3] at h
 | .str,[],_,_,h,_=>by simp[J3] at h
 | .row _ _,_::_,_,[],_,hr=>hr.elim
 | .int _,_::_,_,[],_,hr=>hr.elim
 | .bool,_::_,_,[],_,hr=>hr.elim
 | .str,_::_,_,[],_,hr=>hr.elim
theorem RX {α:Type} {Rr:α->List Value->Prop} {sz:Nat} {ps:List α} {cs:List Value} {n:Nat} (h:Bn Rr sz ps cs) (hn:n<=ps.length):Bn Rr sz (ps.take n) (cs.take (n*sz)):=by
 have hns:n*sz<=cs.length:=by rw[h.1];exact ANV _ hn
 refine⟨by simp[ANb hn,ANb hns],λj p hj=> ?_⟩;rw[ANg] at hj;split at hj
 · rename_i hlt
   have hjs:j*sz+sz<=n*sz:=(by rw[<-AN9];exact ANV _ hlt);have:=h.2 j p hj;rw[APp,API,ANb (by omega)];exact this
 · cases hj
theorem jC (hΘ:Θ.ok P=true) (I:Inv U0 ν tm hp w0 a w) (hU : ∀q,U0 q->q<w0.heap.size) {t:TypeId} {x y:Operand} (ho:o.op= .makeSlice t x y) (h:(stepT Θ S k tm hp o.dst (.makeSlice t x y) K).run=some r):CX P Θ S k o U0 ν tm hp w0 a w K r:=by
 simp only[stepT] at h;split at h
 · rename_i i q hi hq
   split at h
   · rename_i e hk
     split at h
     · rename_i zi hzi
       split at h
       · rename_i ty hty
         split at h
         · rename_i hc
           obtain⟨hsz,hzb,hb0⟩:=hc
           replace hzb:=Zj hzb
           split at h
           · rename_i kl n kc c hx hy
             obtain⟨h0,h⟩:=Tree.need h;obtain⟨hnc,h⟩:=Tree.need h;obtain⟨hby,h⟩:=Tree.need h;have h1:=Fc (hx▸I.AQ x);have h2:=Fc (hy▸I.AQ y);obtain⟨_,d,_,hd,_,_,hB,_⟩:=BO hΘ hi;rw[hk] at hB;rw[IE hB] at hd;obtain⟨f,_,SW,_,hs,hbf,_,_,hzl,z,hz,l9⟩:=BO hΘ hzi;have hzr:CD (CW U0 ν (lv hp) w) zi.zero z:=Kj l9;have h4 : ∀u∈z,u.oneCell'=true:=λu hu=>by
              obtain⟨c,_,hr⟩:=hzr.mem u hu;exact hr.one I.iF
             have htn:(n:Int).toNat<=(c:Int).toNat:=Int.toNat_le_toNat hnc;have hc0:0<=(c:Int):=APC h0 hnc;have hcm:(c:Int).toNat<=281474976710656:=AN6 (AOo _ (Nat.pos_of_ne_zero hb0)) hby;have hr:=run_make (P:=P) w t e f (Ny z) hd SW hz kl kc n c h0 hnc (by
              have h3:((f.bytes*(c:Int).toNat:Nat):Int)<=281474976710656:=(by rw[hbf,APB];omega);rw[APP,Int.toNat_of_nonneg hc0] at h3;exact h3) (by omega)
             rw[Fe h4,hs,hsz] at hr;refine⟨_,_,h, ?_⟩;intro hh next Q hn
             have hrun:(execOp a.eval o).run P w= .ok (.value (.slice (some ⟨w.heap.size,0,none⟩) (n:Int).toNat (c:Int).toNat)) (w.alloc (.cells (madeCells z.toArray ((c:Int).toNat*ty.size)) e)):=by
              simp[execOp,ho,h1,h2,hr]
             unfold Oper.wp;rw[hrun];rw[hq] at hh hn;obtain⟨hg,hb,_⟩:=Mq hh;show next (a.put o.dst _) _
             rw[hq];refine hn (upd ν q (.slice (some ⟨w.heap.size,0,none⟩) (n:Int).toNat (c:Int).toNat)) _ _ (I.new hU hg hb (by simp) (λk hk=>Below.heap_alloc _ _ _ hk) (λk hk=> ?_) (I.fr.alloc _) (λm hL=> ?_) _)
             · injection hk with hk
               have hk:w.heap.size=k:=hk;omega
             · refine⟨⟨⟨((madeCells z.toArray ((c:Int).toNat*ty.size)).toList).take ((n:Int).toNat*ty.size), ?_, ?_⟩,λk hk=>by rw[BQ] at hk;injection hk with hk;exact hk▸I.fr.size⟩,D3 (c:= .own q) ⟨((D4 hg hb).1 q).2 (.inr rfl),by rw[BQ];rfl⟩⟩
               · have hle:(n:Int).toNat*ty.size<=(c:Int).toNat*ty.size:=ANV _ htn
                 rw[BQ,Ey];refine⟨by simp[size_madeCells,ANb hle], .inr ⟨w.heap.size,(c:Int).toNat,_,by simp,I.fr.size,heap_alloc_new w _,by simpa using htn,by unfold maxLen;omega,by simp[size_madeCells],by simp⟩⟩
               · obtain⟨v1,v2,e1,e2,e3⟩:=Uv (U:=Un U0 (upd ν q (.slice (some ⟨w.heap.size,0,none⟩) (n:Int).toNat (c:Int).toNat)) (lv (hp.set q (.row .mine e ty (List.replicate (n:Int).toNat (dflt ty)))))) hzb (hzr.imp λ_ _ z=>CW.move m hL z)
                 have:v2= []:=by
                  cases v2 with
                  | nil=>rfl
                  | cons _ _=>exact e3.elim
                 subst this;rw[AOa] at e1;subst e1;have AJS:z.length=ty.size:=(by rw[(kd ty).Dr e2.K,Ey]);have hm:=Kd.eT (R:=λx c'=>Rd (Un U0 (upd ν q (.slice (some ⟨w.heap.size,0,none⟩) (n:Int).toNat (c:Int).toNat)) (lv (hp.set q (.row .mine e ty (List.replicate (n:Int).toNat (dflt ty)))))) _ ty x c') (z:=Ny z) (size:=ty.size) (z0:=dflt ty) (by rw[Fe h4];simp[AJS]) (size_pos ty) (by rw[Fe h4];exact e2) (c:Int).toNat;rw[Fe h4] at hm;have:=RX hm (n:=(n:Int).toNat) (by simpa using htn);rw[List.take_replicate,ANb htn] at this;rw[Ey];exact this
           · cases h
         · cases h
       · cases h
     · cases h
   · cases h
 · cases h
theorem zm (hΘ:Θ.ok P=true) (I:Inv U0 ν tm hp w0 a w) (hU : ∀q,U0 q->q<w0.heap.size) {e:TypeId} (ho:o.op= .alloc e) (h:(stepT Θ S k tm hp o.dst (.alloc e) K).run=some r):CX P Θ S k o U0 ν tm hp w0 a w K r:=by
 simp only[stepT] at h;split at h
 · rename_i i t hi hd
   split at h
   · rename_i n e' hk
     split at h
     · rename_i z hz
       split at h
       · rename_i ty hty
         split at h
         · rename_i hsz
           split at h
           · rename_i xs hxs
             have hfz:=KS (hp:=hp) i.zero;obtain⟨ν',I'⟩:=I.IA hU hfz;obtain⟨f,d,hf,_,_,_,_,_,_,zs,hzv,l9⟩:=BO hΘ hi;have h3:CD (CW U0 ν' (lv (DB (Kb hp i.zero) hp)) w) i.zero zs:=Kj l9;have h4 : ∀u∈zs,u.oneCell'=true:=λu hu=>by
              obtain⟨c,_,hr⟩:=h3.mem u hu;exact hr.one I'.iF
             obtain⟨r1,r2,r3⟩:=QG I' (Cc.frz hfz (λj e t xs hj hb=>Mp hj hb) _ _) ((QF hfz n i.zero).trans hxs) h3;refine⟨_,_,h, ?_⟩;intro hh next Q hn
             have hrun:(execOp a.eval o).run P w= .ok (.value (.pointer (some ⟨w.heap.size,0,none⟩))) (w.alloc (.cells zs.toArray e (0,0))):=by
              have hzv:(zeroValue e).run P w= .ok (Ny zs) w:=(by simp[zeroValue,typeInfo,hf,hzv]);simp only[execOp,ho];simp[Instr.alloc,hzv,newVar,newRow,Fe h4]
             unfold Oper.wp;rw[hrun];rw[hd] at hh hn;obtain⟨hg,hb,_⟩:=Mq hh;have hg':(DB (Kb hp i.zero) hp)[t]? =some .gone:=by
              rcases FR hfz t with q | ⟨_,_,_,q,_⟩
              · rw[q,hg]
              · rw[hg] at q;cases q
             show next (a.put o.dst _) _
             rw[hd];refine hn (upd ν' t (.slice (some ⟨w.heap.size,0,none⟩) n n)) _ _ (I'.new hU hg' hb (by simp) (λk hk=>Below.heap_alloc _ _ _ hk) (λk hk=> ?_) (I'.fr.alloc _) (λm hL=> ?_) _)
             · injection hk with hk
               have hk:w.heap.size=k:=hk;omega
             · have hlen:zs.length=List.length xs*(kd ty).sz:=by rw[r2,r1,Ey]
               have hn0:n<=1000:=hsz.2.2.1;refine⟨⟨⟨zs, ?_,hlen,λj p hj=> ?_⟩,λk hk=>by rw[BQ] at hk;injection hk with hk;exact hk▸I'.fr.size⟩,D3 (c:= .Hg t) ⟨((D4 hg' hb).1 t).2 (.inr rfl),_,_,_,by rw[BQ];rfl,rfl⟩⟩
               · rw[BQ,r1]
                 exact⟨by rw[hlen,r1], .inr ⟨w.heap.size,n,zs.toArray,rfl,I'.fr.size,heap_alloc_new w _,ANS _,by unfold maxLen;omega,by simp[hlen,r1],ANW (by simp[hlen,r1])⟩⟩
               · rw[Ey]
                 exact(r3 j p hj).move m
           · cases h
         · cases h
       · cases h
     · cases h
   · exact wQ hΘ I hU ho hi hd h
 · cases h
theorem zn (hΘ:Θ.ok P=true) (I:Inv U0 ν tm hp w0 a w) (hU : ∀k,U0 k->k<w0.heap.size) {t:TypeId} {x y:Operand} (ho:o.op= .store t x y) (hd:o.dst=none) (h:(stepT Θ S k tm hp o.dst (.store t x y) K).run=some r):CX P Θ S k o U0 ν tm hp w0 a w K r:=by
 simp only[stepT] at h;split at h
 · rename_i j off xs i hx hy hi
   split at h
   · rename_i lq e cs hb
     split at h
     · rename_i hle
       obtain⟨f,d,hf,_,hs,_⟩:=BO hΘ hi;obtain⟨hj,g,hν,hv⟩:=val_one (hx▸I.AQ x);obtain⟨g',vs,h1,h2,h3,h4,h5⟩:=I.cells hb;rw[hν] at h1;injection h1 with h1;injection h1 with h1;injection h1 with h1;subst h1;obtain⟨us,e1,e2,e3,e4⟩:=(hy▸I.AQ y:Fa U0 ν (lv hp) w (.val xs) (a.eval y)).cells I;have hlen:=h4.len;have hul:=e3.len;obtain⟨w',q1,q2,q3,q4,q5,q6,q7⟩:=Km (P:=P) g e off us 0 vs w h3 (by omega) e4;have hrun:(execOp a.eval o).run P w= .ok .skip w':=by
        simp only[execOp,ho,hv];simp[Instr.storeAt,Instr.sureAddr,storeVar,e2,sizeOf,typeInfo,hf,hs,show us.length=i.size by omega,q1]
       refine⟨_,_,h, ?_⟩;intro hh next Q hn
       unfold Oper.wp;rw[hrun];refine hn ν undef w' ?_;rw[show N3 o.dst hp ⟨none,[(j, .cells lq e (cs.take off++xs++cs.drop (off+i.size)))]⟩=hp.set j (.cells lq e (cs.take off++xs++cs.drop (off+i.size))) from rfl];refine I.ACU hb rfl rfl (by rw[hν];rfl) q3 q4 ⟨q5.trans I.fr.os,q6.trans I.fr.tape,q7.trans I.fr.output,by have:=I.fr.size;omega,λq hq XS=>(q4 q (h2.ne hq XS)).trans (I.fr.block q hq XS)⟩ (by cases lq<;>exact id) (λm=> ?_) _ _;refine⟨g,vs.take off++us++vs.drop (off+us.length),hν,h2,by simpa using q2, ?_⟩;have:=((h4.take off).app e3).app (h4.drop (off+i.size));rw[show off+us.length=off+i.size by omega];exact this.imp λ_ _ z=>CW.move m Rb z
     · cases h
   · cases h
 · rename_i j q sz ys i hx hy hi
   split at h
   · rename_i lq e t' xs hb
     split at h
     · rename_i hc
       obtain⟨hz,hiz,hin⟩:=hc;split at h
       · rename_i y' hy'
         obtain⟨f,d,hf,_,hs,_⟩:=BO hΘ hi;have hfz:=KS (hp:=hp) ys;obtain⟨ν',I'⟩:=I.IA hU hfz;have hb':(DB (Kb hp ys) hp)[j]? =some (.row lq e t' xs):=by
          rcases FR hfz j with q | ⟨_,_,_,_,_,q⟩
          · exact q.trans hb
          · rw[hin] at q;cases q
         obtain⟨us,e1,e2,e3,e4⟩:=(hy▸I'.AQ y:Fa U0 ν' (lv (DB (Kb hp ys) hp)) w (.val ys) (a.eval y)).cells I';obtain⟨v1,v2,rfl,hrd,hnil⟩:=nH I hU hfz (λj e t xs hj hb=>Mp hj hb) hy' I' e3;have:v2= []:=by
          cases v2 with
          | nil=>rfl
          | cons _ _=>exact hnil.elim
         subst this;rw[AOa] at e2 e4;have hul:v1.length=t'.size:=(by rw[(kd t').Dr hrd.K,Ey]);obtain⟨g,cap,cur,inner,h1,h2,h3,h4,h5,h6,h7,hv⟩:=I'.qU hb' (val_one (hx▸I'.AQ x)) hz;have Pu:=Ey t';have hfit:q.toNat*t'.size+t'.size<=List.length xs*(kd t').sz:=(by rw[Pu,<-AN9];exact ANV _ h7);have hcl:List.length xs*(kd t').sz<=cur.toList.length:=by
          have:=congrArg List.length h4;rw[ANO,h5.1] at this;omega
         obtain⟨w',q1,q2,q3,q4,q5,q6,q7⟩:=Km (P:=P) g e (q.toNat*t'.size) v1 0 cur.toList w (by simpa using h3) (by omega) e4;have hrun:(execOp a.eval o).run P w= .ok .skip w':=by
          simp only[execOp,ho,hv];simp[Instr.storeAt,Instr.sureAddr,storeVar,e2,sizeOf,typeInfo,hf,hs,show v1.length=i.size by omega,q1]
         refine⟨_,_,h, ?_⟩;intro hh next Q hn
         unfold Oper.wp;rw[hrun];refine hn ν' undef w' ?_;rw[show N3 o.dst hp ⟨none,(j, .row lq e t' ((xs:List (T t')).set q.toNat y'))::Kb hp ys⟩=(DB (Kb hp ys) hp).set j (.row lq e t' ((xs:List (T t')).set q.toNat y')) from rfl];refine I'.ACU hb' rfl rfl (by rw[h1];rfl) q3 q4 ⟨q5.trans I.fr.os,q6.trans I.fr.tape,q7.trans I.fr.output,by have:=I.fr.size;omega,λz hz XS=>(q4 z (h2.ne hz XS)).trans (I.fr.block z hz XS)⟩ (by cases lq<;>exact id) (λm=> ?_) _ _;refine⟨⟨inner.take (q.toNat*t'.size)++v1++inner.drop (q.toNat*t'.size+t'.size), ?_, ?_⟩,λk hk=>by rw[h1] at hk;injection hk with hk;exact hk▸h2⟩
         · refine⟨by have:=h5.1;simp only[ANT,ANO,ANo,hul,AN3];omega, .inr ⟨g,cap,_,by rw[h1];simp,UZ h2,q2, ?_⟩⟩
           rcases h5.2 with⟨z,_⟩ | ⟨g',cap',cur',z,z2,z3,z4,z5,z6,z7⟩
           · rw[h1] at z;cases z
           · rw[h1] at z
             injection z with z1 z8 z9;injection z1 with z1;injection z1 with z1;subst z1 z9;rw[h3] at z3;injection z3 with z3;injection z3 with z3;subst z3;refine⟨by simpa using z4,z5, ?_, ?_⟩
             · have:cur.toList.length=cur.size:=by simp
               simp[hul];omega
             · simp only[AQH,AN3]
               rw[<-h4,nI _ _ _ _ (by omega) hcl,hul]
         · exact(mK (by rw[Pu] at h6;exact h6) hrd hul h7 |> λz=>by rw[Pu];exact z.Gh λ_ _ z=>z.move m)
       · cases h
     · cases h
   · cases h
 · rename_i j ys i hx hy hi
   split at h
   · rename_i n e' hk
     split at h
     · rename_i lq e t' xs hb
       split at h
       · rename_i hc
         obtain⟨his,hin⟩:=hc;split at h
         · rename_i xs' hxs
           obtain⟨hln,h⟩:=Tree.need h;obtain⟨f,d,hf,_,hs,_⟩:=BO hΘ hi;have hfz:=KS (hp:=hp) ys;obtain⟨ν',I'⟩:=I.IA hU hfz;have hb':(DB (Kb hp ys) hp)[j]? =some (.row lq e t' xs):=by
            rcases FR hfz j with q | ⟨_,_,_,_,_,q⟩
            · exact q.trans hb
            · rw[hin] at q;cases q
           obtain⟨us,e1,e2,e3,e4⟩:=(hy▸I'.AQ y:Fa U0 ν' (lv (DB (Kb hp ys) hp)) w (.val ys) (a.eval y)).cells I';obtain⟨r1,r2,r3⟩:=QG I' (Cc.frz hfz (λj e t xs hj hb=>Mp hj hb) _ _) ((QF hfz n ys).trans hxs) e3;obtain⟨hj,g0,n0,c0,hν0,hv⟩:=val_one (hx▸I'.AQ x);obtain⟨⟨inner,h4,h5⟩,hmn⟩:=I'.mem j _ hb' rfl;rcases h4.2 with⟨q,_⟩ | ⟨g,cap,cur,q,q2,q3,q4,q5,q6,q7⟩
           · rw[q] at hν0;cases hν0
           · rw[q] at hν0
             injection hν0 with z1 z2 z3;injection z1 with z1;injection z1 with z1;subst z1;have Pu:=Ey t';have hm:=hmn g (by rw[q];rfl);have hul:us.length=List.length xs*t'.size:=(by rw[r2,hln]);have hcl:List.length xs*t'.size<=cur.toList.length:=by
              have:=congrArg List.length q7;rw[ANO,h4.1,Pu] at this;omega
             obtain⟨w',p1,p2,p3,p4,p5,p6,p7⟩:=Km (P:=P) g e 0 us 0 cur.toList w (by simpa using q3) (by omega) e4;have hrun:(execOp a.eval o).run P w= .ok .skip w':=by
              simp only[execOp,ho,hv];simp[Instr.storeAt,Instr.sureAddr,storeVar,e2,sizeOf,typeInfo,hf,hs,show us.length=i.size by rw[r2,his],p1]
             refine⟨_,_,h, ?_⟩;intro hh next Q hn
             unfold Oper.wp;rw[hrun];refine hn ν' undef w' ?_;rw[show N3 o.dst hp ⟨none,(j, .row lq e t' xs')::Kb hp ys⟩=(DB (Kb hp ys) hp).set j (.row lq e t' xs') from rfl];refine I'.ACU hb' rfl rfl (by rw[q];rfl) p3 p4 ⟨p5.trans I.fr.os,p6.trans I.fr.tape,p7.trans I.fr.output,by have:=I.fr.size;omega,λz hz XS=>(p4 z (hm.ne hz XS)).trans (I.fr.block z hz XS)⟩ (by cases lq<;>exact id) (λm=> ?_) _ _;have hll:List.length xs'=List.length xs:=(by rw[r1,hln]);refine⟨⟨us,⟨by rw[hul,hll,Pu], .inr ⟨g,cap,_,by rw[q,hll],UZ hm,p2,by rw[hll];exact q4,q5, ?_, ?_⟩⟩,⟨by rw[hul,hll,Pu],λi p hi=>by rw[Pu];exact(r3 i p hi).move m⟩⟩,λk hk=>by rw[q] at hk;injection hk with hk;exact hk▸hm⟩
             · have:cur.toList.length=cur.size:=by simp
               simp;omega
             · rw[hll,Pu,<-hul]
               simp
         · cases h
       · cases h
     · cases h
   · cases h
 · cases h
theorem AE0 (hS:FP P S k) (I:Inv U0 ν tm hp w0 a w) (hU : ∀q,U0 q->q<w0.heap.size) {c:Call} {g:FuncId} (hg:c.callee= .value (.func g)) (ho:o.op= .call c) {s:mQ} (hs:S g=some (.nw s)) {x:TT s.ps} (hx:args hp tm s.ps c.args.toList=some x) {t:Tmp} (hd:o.dst=some t) (h:(Tree.dR (s.f k x) λr=>K (.val [.own t]) ⟨some (.row .mine s.e s.t r),HZ hp tm c.args.toList⟩).run=some r):CX P Θ S k o U0 ν tm hp w0 a w K r:=by
 obtain⟨y,hf,h⟩:=Tree.Rf h;refine⟨_,_,h, ?_⟩;intro hh next Q hn
 obtain⟨hb,hk⟩:=hS g _ hs;have hrun:(execOp a.eval o).run P w= .ok (.enter g (c.args.toList.map a.eval).toArray) w:=Rm hg ho hb;unfold Oper.wp;rw[hrun];have hfz:=Uq (hp:=hp) (tm:=tm) c.args.toList;obtain⟨ν',I'⟩:=I.IA hU hfz;have zh : ∀q,Un U0 ν' (lv (DB (HZ hp tm c.args.toList) hp)) q->q<w.heap.size:=λq hq=>by
  rcases hq with hq | ⟨j,hj,hb⟩
  · exact AOB (hU q hq) I'.fr.size
  · exact(I'.lt hj hb).1
 rw[Oper.upon_enter];refine(hk k (ANS _) x y hf _ w _ zh (QE I' (λq _ hq=>hq) (λo' ho'=>Cc.frz hfz (λj e t xs hj hb=>Us ho' hj hb) _ _) ((Ur hfz _ _).trans hx))).mono λe w' hq=> ?_
 obtain⟨v,inner,rfl,hown,qk,Pt⟩:=hq;show next (a.put o.dst v) w'
 rw[hd] at hh hn ⊢;obtain⟨hg,hb',_⟩:=Mq hh;have hg':(DB (HZ hp tm c.args.toList) hp)[t]? =some .gone:=by
  rcases FR hfz t with q | ⟨_,_,_,q,_⟩
  · rw[q,hg]
  · rw[hg] at q;cases q
 have hnew : ∀k,C4 v=some k->w.heap.size<=k:=λk hk=>by
  rcases hown.2 with⟨q,_⟩ | ⟨g,cap,cur,q,q2,_⟩
  · rw[q] at hk;cases hk
  · rw[q] at hk;injection hk with hk;exact hk▸q2
 have AJT:ref v=v:=by
  rcases hown.2 with⟨q,_⟩ | ⟨g,cap,cur,q,_⟩<;>rw[q]<;>rfl
 refine hn (upd ν' t v) v w' (I'.new hU hg' hb' Pt.size Pt.block hnew (I'.fr.step Pt) (λm hL=> ?_) _);refine⟨⟨⟨inner, ?_,qk.Gh λ_ _ z=>z.move ⟨ANS _,λ_ _ _=>rfl,λq _ hu=> ?_⟩⟩,λk hk=>by rw[BQ] at hk;exact KQ.new (AN6 I'.fr.size (hnew k hk))⟩,D3 (c:= .own t) ⟨((D4 hg' hb').1 t).2 (.inr rfl),by rw[BQ];exact AJT.symm⟩⟩
 · rw[BQ]
   refine⟨hown.1,hown.2.imp id λ⟨g,cap,cur,q,q2,q3⟩=>⟨g,cap,cur,q,AN6 (UZ (KQ.new (q:= .mine) I'.fr.size)) q2,q3⟩⟩
 · obtain⟨hlv,hnt⟩:=D4 hg' hb'
   rcases hu with hu | ⟨j,hj,Zh⟩
   · exact .inl (.inl hu)
   · rcases(hlv j).1 hj with hj | hj
     · rw[Fz (λz:j=t=>hnt (z▸hj))] at Zh;exact .inl (.inr ⟨j,hj,Zh⟩)
     · subst hj
       rw[BQ] at Zh;exact .inr Zh
end
end
end Go.Proofs.YtjocbnjpjihpnaaGreatW.Gb
end
section
namespace Go.Proofs.YtjocbnjpjihpnaaGreatW.Gb
open Go.RowKit Go.Proofs.YtjocbnjpjihpnaaGreatW.AD Go.Proofs.YtjocbnjpjihpnaaGreatW.AR Go.Proofs.YtjocbnjpjihpnaaGreatW.AY
set_option linter.unusedVariables false
set_option linter.unusedSectionVars false
set_option linter.unusedSimpArgs false
section
section
variable {P:Program} {Θ:JE} {S:FuncId->Option FE} {k:Nat} {o:Oper} {U0:Nat->Prop} {ν:Nat->Value} {tm:List AV} {hp:List AB} {w0:St} {w:World} {a:Act} {R:Type} {K:AV->HC->Tree R} {r:R}
def grown (ν:Nat->Value) (src:List (Nat × AB)) (q:Nat) (v:Value):Nat->Value:=upd (match src with
 | (j,_)::_=>upd ν j (.tuple #[ν j])
 | []=>ν) q v
theorem Inv.grow (I:Inv U0 ν tm hp w0 a w) (hU : ∀k,U0 k->k<w0.heap.size) {src:List (Nat × AB)} {q:Nat} {b:AB} {v v' u:Value} {x:AV} {w':World} (hsrc:(src= []/\v.ownBlock=none)\/ ∃j lq e t xs,src= [(j, .used)]/\hp[j]? =some (.row lq e t xs)/\v=ν j/\P0 (.row lq e t xs)=false) (hg:hp[q]? =some .gone) (hb:EI b=false)
 (gr:w.grownBy w' v.ownBlock) (hv':C4 v'=v'.ownBlock) (Mm:v'.ownBlock=v.ownBlock\/v'.ownBlock=some w.heap.size)
 (hB:Move (Un U0 ν (lv hp)) w w' (Un U0 (grown ν src q v') (lv ((DB src hp).set q b)))->(∀j,lv hp j->lv ((DB src hp).set q b) j/\Kp ν (grown ν src q v') j)->SN U0 (grown ν src q v') (lv ((DB src hp).set q b)) w0 w' q b/\Fa U0 (grown ν src q v') (lv ((DB src hp).set q b)) w' x u) (d:Option Tmp) :
 Inv U0 (grown ν src q v') (Lj tm d x) ((DB src hp).set q b) w0 (a.put d u) w':=by
 obtain⟨AMp,hnq⟩:=D4 hg hb;have yA:=(ANN.1 hg).1;have hj : ∀j b',(j,b')∈src->b'= .used/\src= [(j, .used)]/\ ∃lq e t xs,hp[j]? =some (.row lq e t xs)/\v=ν j:=λj b' hm=>by
  rcases hsrc with⟨h,_⟩ | ⟨i,lq,e,t,xs,h,h1,h2,_⟩
  · rw[h] at hm;cases hm
  · rw[h,APK] at hm
    injection hm with e1 e2;subst e1 e2;exact⟨rfl,h,lq,e,t,xs,h1,h2⟩
 have zo : ∀i,(DB src hp)[i]? =hp[i]? \/(src= [(i, .used)]/\(DB src hp)[i]? =some .used):=λi=>by
  rcases hsrc with⟨h,_⟩ | ⟨j,lq,e,t,xs,h,h1,_⟩
  · rw[h];exact .inl rfl
  · rw[h]
    by_cases hij:j=i
    · subst hij
      exact .inr ⟨rfl,by simp[DB,(ANN.1 h1).1]⟩
    · exact .inl (by simp[DB,ANf hij])
 have hgq:(DB src hp)[q]? =some .gone:=by
  rcases zo q with h | ⟨h,_⟩
  · rw[h,hg]
  · obtain⟨_,_,lq,e,t,xs,h1,_⟩:=hj q .used (by rw[h];exact APj _)
    rw[hg] at h1;cases h1
 have hlc : ∀i,lv (DB src hp) i↔lv hp i:=λi=>by
  unfold lv;rcases zo i with h | ⟨h,h2⟩
  · rw[h]
  · obtain⟨_,_,lq,e,t,xs,h1,_⟩:=hj i .used (by rw[h];exact APj _)
    rw[h1,h2];exact⟨λ_=>⟨_,rfl,rfl⟩,λ_=>⟨_,rfl,rfl⟩⟩
 have hlv : ∀i,lv ((DB src hp).set q b) i↔lv hp i\/i=q:=λi=>((D4 hgq hb).1 i).trans (or_congr (hlc i) Iff.rfl)
 have hne : ∀i,lv hp i->i≠q:=λi hi e=>hnq (e▸hi)
 have hν : ∀i,i≠q->grown ν src q v' i=ν i\/(src= [(i, .used)]/\grown ν src q v' i= .tuple #[ν i]/\v=ν i/\ ∃lq e t xs,hp[i]? =some (.row lq e t xs)):=λi hi=>by
  rcases hsrc with⟨h,_⟩ | ⟨j,lq,e,t,xs,h,h1,h2,_⟩
  · exact .inl (by unfold grown;rw[Fz hi,h])
  · by_cases hij:i=j
    · subst hij
      exact .inr ⟨h,by unfold grown;rw[Fz hi,h];exact BQ,h2,lq,e,t,xs,h1⟩
    · exact .inl (by unfold grown;rw[Fz hi,h];exact Fz hij)
 have hνq:grown ν src q v' q=v':=BQ;have hL : ∀i,lv hp i->lv ((DB src hp).set q b) i/\Kp ν (grown ν src q v') i:=λi hi=>⟨(hlv i).2 (.inl hi),by
  rcases hν i (hne i hi) with h | ⟨_,h,_,lq,e,t,xs,h1⟩
  · exact .inl h
  · obtain⟨_,A,c,hs⟩:=(I.mem i _ h1 rfl).LI (U:=λ_=>False) (λ_ _ z=>z.elim)
    exact .inr ⟨A,_,c,hs,h⟩⟩
 have hvb : ∀k,v.ownBlock=some k-> ∃j,lv hp j/\C4 (ν j)=some k/\src= [(j, .used)]:=λk hk=>by
  rcases hsrc with⟨_,h⟩ | ⟨j,lq,e,t,xs,h,h1,h2,_⟩
  · rw[h] at hk;cases hk
  · refine⟨j,⟨_,h1,rfl⟩, ?_,h⟩
    obtain⟨_,A,c,hs⟩:=(I.mem j _ h1 rfl).LI (U:=λ_=>False) (λ_ _ z=>z.elim);rw[h2,hs] at hk;rw[hs];cases A with
    | none=>cases hk
    | some ad=>exact hk
 have wR : ∀i k,lv ((DB src hp).set q b) i->C4 (grown ν src q v' i)=some k->(i≠q/\lv hp i/\C4 (ν i)=some k/\v.ownBlock≠some k)\/(i=q/\(v.ownBlock=some k\/k=w.heap.size)):=λi k hi h=>by
  by_cases qX:i=q
  · subst qX
    rw[hνq,hv'] at h;refine .inr ⟨rfl, ?_⟩;rcases Mm with z | z
    · exact .inl (z.symm.trans h)
    · rw[z] at h;injection h with h;exact .inr h.symm
  · have hi':lv hp i:=((hlv i).1 hi).resolve_right qX
    rcases hν i qX with z | ⟨_,z,_⟩
    · rw[z] at h
      refine .inl ⟨qX,hi',h,λhk=> ?_⟩;obtain⟨j,hjl,hjb,hs⟩:=hvb k hk;by_cases hij:i=j
      · subst hij
        rcases hν i qX with y | ⟨_,y,_⟩
        · rcases hsrc with⟨s,_⟩ | ⟨j',lq,e,t,xs,s,h1,h2,_⟩
          · rw[hs] at s;cases s
          · rw[hs] at s
            injection s with s _;injection s with s _;subst s;obtain⟨_,A,c,dQ⟩:=(I.mem i _ h1 rfl).LI (U:=λ_=>False) (λ_ _ z=>z.elim);unfold grown at y;rw[Fz qX,hs] at y;have:(Value.tuple #[ν i])=ν i:=(BQ (ν:=ν) (t:=i)).symm.trans y;rw[dQ] at this;cases this
        · rw[z] at y
          rcases hsrc with⟨s,_⟩ | ⟨j',lq,e,t,xs,s,h1,h2,_⟩
          · rw[hs] at s;cases s
          · rw[hs] at s
            injection s with s _;injection s with s _;subst s;obtain⟨_,A,c,dQ⟩:=(I.mem i _ h1 rfl).LI (U:=λ_=>False) (λ_ _ z=>z.elim);rw[dQ] at y;cases y
      · exact I.qV i j hij hi' hjl k h hjb
    · rw[z] at h;cases h
 have m:Move (Un U0 ν (lv hp)) w w' (Un U0 (grown ν src q v') (lv ((DB src hp).set q b))):=by
  refine⟨gr.size,λk hk hu=>gr.block k hk λz=> ?_,λk hk hun=> ?_⟩
  · obtain⟨j,hjl,hjb,_⟩:=hvb k z.symm
    exact hu (.inr ⟨j,hjl,hjb⟩)
  · rcases hun with hun | ⟨i,hi,rR⟩
    · exact .inl hun
    · rcases wR i k hi rR with⟨_,h1,h2,_⟩ | ⟨_,h | h⟩
      · exact .inr ⟨i,h1,h2⟩
      · obtain⟨j,hjl,hjb,_⟩:=hvb k h
        exact .inr ⟨j,hjl,hjb⟩
      · omega
 obtain⟨hBq,hx⟩:=hB m hL;have hF:Since w0 w':=⟨gr.os.trans I.fr.os,gr.tape.trans I.fr.tape,gr.output.trans I.fr.output,AN6 I.fr.size gr.size,λk hk XS=>by
  have:=I.fr.size;rw[gr.block k (by omega) (λz=> ?_),I.fr.block k hk XS];obtain⟨j,hjl,hjb,_⟩:=hvb k z.symm;rcases(I.lt hjl hjb).2 with z | z
  · omega
  · exact XS z⟩
 refine I.put d x u m hL hx (λi b' h1 h2=> ?_) (λi i' hii hi hi' k h1 h2=> ?_) hF (I.fx.yh λi b' h1 h2=> ?_)
 · by_cases qX:q=i
   · subst qX
     rw[AN2 (ANN.1 hgq).1] at h1;injection h1 with h1;subst h1;exact hBq
   · rw[ANf qX] at h1
     rcases zo i with z | ⟨z,z2⟩
     · rw[z] at h1
       rcases hν i (λe=>qX e.symm) with y | ⟨s,y,_,lq,e,t,xs,y2⟩
       · refine(I.mem i b' h1 h2).move m hL y λk hk=>gr.block k (I.lt ⟨b',h1,h2⟩ hk).1 λzz=> ?_
         have:=wR i k ((hlv i).2 (.inl ⟨b',h1,h2⟩)) (by rw[y];exact hk);rcases this with⟨_,_,_,z3⟩ | ⟨z3,_⟩
         · exact z3 zz.symm
         · exact qX z3.symm
       · rcases zo i with _ | ⟨_,z4⟩
         · have:(DB src hp)[i]? =some .used:=by rw[s];simp[DB,(ANN.1 y2).1]
           rw[z,h1] at this;injection this with this;subst this;rw[h1] at y2;cases y2
         · rw[z,h1] at z4
           injection z4 with z4;subst z4;rw[h1] at y2;cases y2
     · rw[z2] at h1
       injection h1 with h1;subst h1;rcases hν i (λe=>qX e.symm) with y | ⟨s,y,_,lq,e,t,xs,y2⟩
       · obtain⟨_,_,lq,e,t,xs,h1,_⟩:=hj i .used (by rw[z];exact APj _)
         obtain⟨_,A,c,dQ⟩:=(I.mem i _ h1 rfl).LI (U:=λ_=>False) (λ_ _ z=>z.elim);unfold grown at y;rw[Fz (λe=>qX e.symm),z] at y;have:(Value.tuple #[ν i])=ν i:=(BQ (ν:=ν) (t:=i)).symm.trans y;rw[dQ] at this;cases this
       · obtain⟨_,A,c,dQ⟩:=(I.mem i _ y2 rfl).LI (U:=λ_=>False) (λ_ _ z=>z.elim)
         exact⟨ν i,y,by rw[dQ];rfl⟩
 · rcases wR i k hi h1 with⟨n1,l1,b1,c1⟩ | ⟨n1,c1⟩<;>rcases wR i' k hi' h2 with⟨n2,l2,b2,c2⟩ | ⟨n2,c2⟩
   · exact I.qV i i' hii l1 l2 k b1 b2
   · rcases c2 with c2 | c2
     · exact c1 c2
     · have:=(I.lt l1 b1).1;omega
   · rcases c1 with c1 | c1
     · exact c2 c1
     · have:=(I.lt l2 b2).1;omega
   · exact hii (n1.trans n2.symm)
 · have qX:i≠q:=by
    rintro rfl;rw[hg] at h1;injection h1 with h1;subst h1;cases h2
   have hni : ∀b2,src≠ [(i,b2)]:=by
    rintro b2 hs;rcases hsrc with⟨s,_⟩ | ⟨j',lq,e,t,xs,s,z1,_,z2⟩
    · rw[hs] at s;cases s
    · rw[hs] at s
      injection s with s _;injection s with s _;subst s;rw[h1] at z1;injection z1 with z1;subst z1;rw[h2] at z2;cases z2
   refine⟨?_,b', ?_,h2⟩
   · rcases hν i qX with y | ⟨s,_⟩
     · exact y
     · exact absurd s (hni _)
   · rw[ANf (AQN qX)]
     rcases zo i with y | ⟨s,_⟩
     · rw[y];exact h1
     · exact absurd s (hni _)
theorem zp {U:Nat->Prop} {e:TypeId} {t:Ty} {ys:List (T t)} {v:Value} (h:Rd U w (.row e t) ys [v]) : ∃A cp news,v= .slice A (List.length ys) cp/\List.length ys<=cp/\Bn (λx c=>Rd U w t x c) t.size ys news/\(∀ad,A=some ad-> ∀i u,news[i]? =some u->w.cell? (ad.add i)=some u)/\(A=none->ys= [])/\List.length ys<=9223372036854775807:=by
 obtain⟨A,cp,h1,h2,h3,h4⟩:=h;have h1:=(AOM h1).1;rcases APJ (List.length ys) with hz | hz
 · obtain rfl:ys= []:=AN4 hz
   exact⟨A,cp,[],h1,h2,Bn.none _ _,λ_ _ i u hu=>by simp at hu,λ_=>rfl,h3⟩
 · obtain⟨ad,rfl,h5⟩:=h4 hz
   have hR:Ef (λx c=>Rd U w t x c) t.size w (some ad) (List.length ys) ys:=⟨rfl,h3,λ_=>⟨ad,rfl,λj p hj=>by
    obtain⟨c,q1,q2⟩:=h5 j p hj;exact⟨c,by rw[(kd t).Dr q1.K,Ey],q1,λi u hu=>(q2 i u hu).now⟩⟩⟩
   obtain⟨inner,q1,q2⟩:=Ef.yQ hR;exact⟨some ad,cp,inner,h1,h2,q1,λad' e'=>by injection e' with e';subst e';exact q2,λz=>(by cases z),h3⟩
theorem uU (I:Inv U0 ν tm hp w0 a w) {e:TypeId} {t:Ty} {c:AC} {ys:List (T t)} {v:Value} (h:Uc hp e t c=some ys) (hv:CW U0 ν (lv hp) w c v) : ∃A cp news,v= .slice A (List.length ys) cp/\List.length ys<=cp/\Bn (λx c=>Rd (Un U0 ν (lv hp)) w t x c) t.size ys news/\(∀ad,A=some ad-> ∀i u,news[i]? =some u->w.cell? (ad.add i)=some u)/\(A=none->ys= [])/\List.length ys<=9223372036854775807:=by
 unfold Uc at h;split at h
 · rename_i xs hx
   injection h with h;subst h;cases c with
   | ro t' y =>
     simp only[Ee] at hx;split at hx
     · rename_i e'
       subst e';injection hx with hx;injection hx with hx _;subst hx;exact zp hv.2
     · cases hx
   | Bo =>
     simp only[Ee] at hx;injection hx with hx;injection hx with hx _;subst hx;have hv:v= .slice none 0 0:=hv;exact⟨none,0,[],hv,ANS _,Bn.none _ _,λ_ z=>(by cases z),λ_=>rfl,by simp⟩
   | own j =>
     simp only[Ee] at hx;split at hx
     · rename_i zs hz
       injection hx with hx;injection hx with hx _;subst hx;unfold ownRow at hz;split at hz
       · rename_i e' t' ws hb
         split at hz
         · rename_i q
           obtain⟨rfl,rfl⟩:=q;injection hz with hz;subst hz;obtain⟨⟨inner,h1,h2⟩,_⟩:=I.mem j _ hb rfl;rw[Ey] at h2;have hv:v=ref (ν j):=hv.2;rcases h1.2 with⟨q1,q2⟩ | ⟨g,cap,cur,q1,q2,q3,q4,q5,q6,q7⟩
           · obtain rfl:ws= []:=AN4 q2
             rw[q1] at hv;exact⟨none,0,[],hv,ANS _,Bn.none _ _,λ_ z=>(by cases z),λ_=>rfl,by simp⟩
           · refine⟨some ⟨g,0,none⟩,cap,inner,by rw[hv,q1];rfl,q4,h2,λad z=> ?_,λz=>(by cases z),AN6 q4 (by unfold maxLen at q5;omega)⟩
             injection z with z;subst z;intro i u hu;rw[<-q7,ANg] at hu;split at hu
             · rw[Hf,Ik q3,APD]
               simpa using hu
             · cases hu
         · cases hz
       · rename_i e' t' ws hb
         split at hz
         · rename_i q
           obtain⟨rfl,rfl⟩:=q;injection hz with hz;subst hz;obtain⟨u,h1,h2⟩:=I.mem j _ hb rfl;have:v=u:=(by rw[hv.2,h1];rfl);rw[this];exact zp h2
         · cases hz
       · cases hz
     · cases hx
   | _=>simp[Ee] at hx
 · cases h
theorem ACX (I:Inv U0 ν tm hp w0 a w) {e:TypeId} {t:Ty} {c:AC} {ys:List (T t)} {v:Value} (h:eo hp e t c=some ys) (hv:CW U0 ν (lv hp) w c v) : ∃A cp news,v= .slice A (List.length ys) cp/\List.length ys<=cp/\Bn (λx c=>Rd (Un U0 ν (lv hp)) w t x c) t.size ys news/\(∀ad,A=some ad-> ∀i u,news[i]? =some u->w.cell? (ad.add i)=some u)/\(A=none->ys= [])/\List.length ys<=9223372036854775807:=by
 unfold eo at h;split at h
 · rename_i j
   split at h
   · rename_i lq e' t' ws hb
     split at h
     · rename_i q
       obtain⟨rfl,rfl⟩:=q;injection h with h;subst h;obtain⟨⟨inner,h1,h2⟩,_⟩:=I.mem j _ hb rfl;rw[Ey] at h2;have hv:v=ref (ν j):=hv.2;rcases h1.2 with⟨q1,q2⟩ | ⟨g,cap,cur,q1,q2,q3,q4,q5,q6,q7⟩
       · obtain rfl:ws= []:=AN4 q2
         rw[q1] at hv;exact⟨none,0,[],hv,ANS _,Bn.none _ _,λ_ z=>(by cases z),λ_=>rfl,by simp⟩
       · refine⟨some ⟨g,0,none⟩,cap,inner,by rw[hv,q1];rfl,q4,h2,λad z=> ?_,λz=>(by cases z),AN6 q4 (by unfold maxLen at q5;omega)⟩
         injection z with z;subst z;intro i u hu;rw[<-q7,ANg] at hu;split at hu
         · rw[Hf,Ik q3,APD]
           simpa using hu
         · cases hu
     · cases h
   · exact uU I h hv
 · exact uU I h hv
theorem nN (I:Inv U0 ν tm hp w0 a w) {e:TypeId} {t:Ty} {c:AC} {src:List (Nat × AB)} {lq:Lq} {xs:List (T t)} {v:Value} (h:Jo hp e t c=some (src,lq,xs)) (hv:CW U0 ν (lv hp) w c v) :
 ∃inner,Ow w (bs w0 lq) e (kd t).sz v (List.length xs) inner/\Bn (λx c=>Rd (Un U0 ν (lv hp)) w t x c) (kd t).sz xs inner/\((src= []/\v.ownBlock=none)\/ ∃j lq e t xs,src= [(j, .used)]/\hp[j]? =some (.row lq e t xs)/\v=ν j/\P0 (.row lq e t xs)=false)/\ ∀k,v.ownBlock=some k->KQ w0 lq k:=by
 cases c with
 | Bo =>
   simp only[Jo] at h;injection h with h;injection h with h1 h2;injection h2 with h2 h3;subst h1 h2 h3;have hv:v= .slice none 0 0:=hv;subst hv;exact⟨[],iE w _ _ _,Bn.none _ _, .inl ⟨rfl,rfl⟩,λk hk=>(by cases hk)⟩
 | own j =>
   have fin : ∀ {lq':Lq} {e':TypeId} {t':Ty} {ws:List (T t')},hp[j]? =some (.row lq' e' t' ws)->P0 (.row lq' e' t' ws)=false->(if h:e'=e/\t'=t then h.2▸some ([(j,AB.used)],lq',ws) else none)=some (src,lq,xs)-> ∃inner,Ow w (bs w0 lq) e (kd t).sz v (List.length xs) inner/\Bn (λx c=>Rd (Un U0 ν (lv hp)) w t x c) (kd t).sz xs inner/\((src= []/\v.ownBlock=none)\/ ∃j lq e t xs,src= [(j, .used)]/\hp[j]? =some (.row lq e t xs)/\v=ν j/\P0 (.row lq e t xs)=false)/\ ∀k,v.ownBlock=some k->KQ w0 lq k:=by
    intro lq' e' t' ws hb hf h;split at h
    · rename_i q
      obtain⟨rfl,rfl⟩:=q;injection h with h;injection h with h1 h2;injection h2 with h2 h3;subst h1 h2 h3;obtain⟨⟨inner,h1,h2⟩,h3⟩:=I.mem j _ hb rfl;have:v=ν j/\C4 (ν j)=(ν j).ownBlock:=by
       rw[hv.2];rcases h1.2 with⟨q1,_⟩ | ⟨_,_,_,q1,_⟩<;>rw[q1]<;>exact⟨rfl,rfl⟩
      obtain⟨rfl,hbl⟩:=this;exact⟨inner,h1,h2, .inr ⟨j,lq',e',t',ws,rfl,hb,rfl,hf⟩,λk hk=>h3 k (hbl.trans hk)⟩
    · cases h
   simp only[Jo] at h;split at h
   · rename_i e' t' ws hb
     exact fin hb rfl h
   · rename_i e' t' ws hb
     exact fin hb rfl h
   · cases h
 | _=>simp[Jo] at h
theorem zq {α:Type} {Rr:α->List Value->Prop} {sz:Nat} {xs ys:List α} {cs ds:List Value} (h:Bn Rr sz xs cs) (h':Bn Rr sz ys ds):Bn Rr sz (xs++ys) (cs++ds):=by
 refine⟨by rw[ANT,ANT,h.1,h'.1,AO5],λj p hj=> ?_⟩;rcases ANs j xs.length with hl | hl
 · rw[AN8 hl] at hj
   have hs:j*sz+sz<=cs.length:=(by rw[h.1,<-AN9];exact ANV _ hl);have:=h.2 j p hj;rw[AOj (by omega),AOZ (by rw[ANo];omega)];exact this
 · rw[AOG hl] at hj
   have hs:cs.length<=j*sz:=(by rw[h.1];exact ANV _ hl);have:=h'.2 _ p hj;rw[APG,ANn hs,AO9,h.1,<-Nat.sub_mul];exact this
theorem wS {P:Program} (w:World) (base:Nat) (t ty e:TypeId) (i:TypeInfo) (z:Value) (ht:P.underlying t=some (.slice e)) (hi:P.info? e=some i) (hz:i.zero=some z) (hzs:z.cells.size=i.size) (hsz:0<i.size)
 (v:Value) (n:Nat) (xs:List Value) (h:Ow w base e i.size v n xs) (ad:Addr) (m c:Nat) (news:List Value) (hl:news.length=m*i.size) (hn : ∀j u,news[j]? =some u->w.cell? (ad.add j)=some u) (h1 : ∀u∈news,u.oneCell'=true)
 (h63:n+m<=maxLen) (hb:(n+m)*i.bytes<=140737488355328) (hbase:base<=w.heap.size) :
 ∃v' w',(Builtin.append_ #[t,t] ty #[v, .slice (some ad) m c]).run P w= .ok v' w'/\Ow w' base e i.size v' (n+m) (xs++news)/\w.grownBy w' v.ownBlock/\(v'.ownBlock=v.ownBlock\/v'.ownBlock=some w.heap.size):=by
 have kit:w.ownsRow base e i.size v n xs-> ∃v' w',(Builtin.append_ #[t,t] ty #[v, .slice (some ad) m c]).run P w= .ok v' w'/\Ow w' base e i.size v' (n+m) (xs++news)/\w.grownBy w' v.ownBlock/\(v'.ownBlock=v.ownBlock\/v'.ownBlock=some w.heap.size):=λho=>by
  obtain⟨v',w',r1,r2,r3,_,r4⟩:=run_append_own_at (P:=P) w base t ty e i z i.size i.bytes ht hi hz rfl rfl hzs hsz v n xs ho ad m c news hl hn h1 h63 hb hbase;exact⟨v',w',r1, .of r2,r3,r4⟩
 have hlen:(xs++news).length=(n+m)*i.size:=by rw[ANT,h.1,hl,AO5]
 have hmx:maxLen<=9223372036854775807:=by unfold maxLen;omega
 rcases h.2 with q | ⟨g,cap,cur,rfl,h2,h3,h4,h5,h6,h7⟩
 · exact kit ⟨h.1, .inl q⟩
 by_cases he:cur.size=cap*i.size
 · exact kit ⟨h.1, .inr ⟨g,cap,cur,rfl,h2,h3,h4,h5,he,h7⟩⟩
 by_cases hroom:n+m<=cap
 · have hfit:n*i.size+news.length<=cur.size:=by
    rw[hl,<-AO5];exact AN6 (ANV _ hroom) h6
   refine⟨_,_,run_append_room (P:=P) w t ty e i ht hi g n cap cur h3 ad m c news hl hn h1 hroom hfit,⟨hlen, .inr ⟨g,cap,_,rfl,h2,setRow_heap w g cur _ e _ h3,hroom,h5, ?_, ?_⟩⟩,⟨rfl,rfl,rfl,by simp,λk _ hk=>setRow_other w g k _ (λe=>hk (by simp[Value.ownBlock,e]))⟩, .inl rfl⟩
   · simp only[List.size_toArray,ANT,ANO,ANo,APc]
     omega
   · rw[h7,<-hlen]
     exact AQP
 · have hold : ∀j u,xs[j]? =some u->w.cell? ((⟨g,0,none⟩:Addr).add j)=some u:=by
    intro j u hu;rw[<-h7,ANg] at hu;split at hu
    · rw[Hf,Ik h3,APD]
      simpa using hu
    · cases hu
   have hge:=grownCap_ge w (n+m) cap e;refine⟨_,_,run_append_grow (P:=P) w t ty e i z ht hi hz ⟨g,0,none⟩ n cap xs h.1 hold ad m c news hl hn (by omega) (by omega) (growslice_fits (by omega) hb),⟨hlen, .inr ⟨w.heap.size,_,_,rfl,hbase,heap_alloc_new w.drew _,hge,grownCap_le_maxLen w (n+m) cap e h63, ?_, ?_⟩⟩,⟨rfl,rfl,rfl,by simp,λk hk _=>heap_alloc_old w.drew _ hk⟩, .inr rfl⟩
   · simp only[Array.size_append,List.size_toArray,size_zeroCells,hzs,h.1,hl,<-AO5]
     exact ANV _ (by omega)
   · simp only[Array.toList_append,AOJ]
     rw[<-AOJ,<-hlen];exact AQP
theorem wT (hΘ:Θ.ok P=true) (I:Inv U0 ν tm hp w0 a w) (hU : ∀k,U0 k->k<w0.heap.size) {c:Call} (hc:c.callee= .builtin .append) (ho:o.op= .call c) (h:(stepT Θ S k tm hp o.dst (.call c) K).run=some r):CX P Θ S k o U0 ν tm hp w0 a w K r:=by
 simp only[stepT,hc] at h;split at h
 · rename_i x y t t2 q hxs hts hq
   split at h
   · rename_i htt
     subst htt;have hop:o.op= .call {callee:= .builtin .append,args:= #[x,y],argTypes:= #[t,t]} :=by
      rw[ho,aE hc hxs]
      congr 2
      exact AP1.1 hts
     split at h
     · rename_i i hi
       split at h
       · rename_i e hk
         split at h
         · rename_i z hz
           split at h
           · rename_i ty hty
             split at h
             · rename_i hzz
               obtain⟨hsz,hb0⟩:=hzz;split at h
               · rename_i cx cy hx hy
                 split at h
                 · rename_i src lq xs ys hg hr
                   · obtain⟨hby,h⟩:=Tree.need h
                     obtain⟨_,d,_,hd,_,_,hB,_⟩:=BO hΘ hi;rw[hk] at hB;rw[IE hB] at hd;obtain⟨f,_,SW,_,hs,hbf,_,_,hzl,zv,hzv,l9⟩:=BO hΘ hz;have hzr:CD (CW U0 ν (lv hp) w) z.zero zv:=Kj l9;have h4 : ∀u∈zv,u.oneCell'=true:=λu hu=>by
                      obtain⟨c,_,hr⟩:=hzr.mem u hu;exact hr.one I.iF
                     obtain⟨inner,g1,g2,g3,g4⟩:=nN I hg (val_one (hx▸I.AQ x));obtain⟨A,cp,news,n1,n2,n3,n4,n5,n6⟩:=ACX I hr (val_one (hy▸I.AQ y));have hbase:bs w0 lq<=w.heap.size:=AEk I.fr.size;have AGP:=hby;have Pu:=Ey ty;have AJU:List.length xs+List.length ys<=maxLen:=by
                      clear AGP;have:List.length xs+List.length ys<=(List.length xs+List.length ys)*z.bytes:=AOo _ (Nat.pos_of_ne_zero hb0);unfold maxLen;omega
                     have hrun : ∃v' w',(Builtin.append_ #[t,t] o.type #[a.eval x,a.eval y]).run P w= .ok v' w'/\Ow w' (bs w0 lq) e (kd ty).sz v' (List.length xs+List.length ys) (inner++news)/\w.grownBy w' (a.eval x).ownBlock/\(v'.ownBlock=(a.eval x).ownBlock\/v'.ownBlock=some w.heap.size):=by
                      have nB:news.length=List.length ys*ty.size:=n3.1;cases A with
                      | none =>
                        obtain rfl:=n5 rfl;have hnn:news= []:=AN4 (by rw[nB];simp);subst hnn;refine⟨a.eval x,w, ?_,by simpa using g1,World.grownBy.refl w _, .inl rfl⟩;rw[n1];rcases g1.2 with⟨q1,q2⟩ | ⟨g,cap,cur,q1,_,_,hnc,_⟩
                        · rw[q1];simp[Builtin.append_,run_underlying hd,sizeOf,typeInfo,SW,Builtin.lenOf,Builtin.firstCells]
                        · rw[q1];simp[Builtin.append_,run_underlying hd,sizeOf,typeInfo,SW,Builtin.lenOf,Builtin.firstCells,hnc,storeCells]
                      | some ad =>
                        have hone : ∀u∈news,u.oneCell'=true:=by
                         intro u hu;obtain⟨q,hq,rfl⟩:=AP2.1 hu;have hpos:=size_pos ty;have yA:q/ty.size<List.length ys:=by
                          rw[APt hpos,<-nB];exact hq
                         have hc:=n3.2 (q/ty.size) _ (ANX yA);refine(kd ty).Gc hc.K _ ?_;rw[APu];refine⟨q%ty.size, ?_⟩;rw[ANg,if_pos (Nat.mod_lt _ hpos),ANj,APB,AQf,ANX hq]
                        have hfs:f.size=(kd ty).sz:=(by rw[hs,hsz,Pu]);have A:=wS (P:=P) w (bs w0 lq) t o.type e f (Ny zv) hd SW hzv (by rw[hfs,Fe h4,Pu];simp[<-hsz,<-hzl,hzr.len]) (by rw[hfs,Pu];exact size_pos ty) (a.eval x) (List.length xs) inner (by rw[hfs];exact g1) ad (List.length ys) cp news (by rw[hfs,Pu];exact nB) (n4 ad rfl) hone AJU (by rw[hbf];exact AGP) hbase;rw[n1,<-hfs];exact A
                     obtain⟨v',w',r1,r2,r3,r4⟩:=hrun;refine⟨_,_,h, ?_⟩;intro hh next Q hn
                     have he:(execOp a.eval o).run P w= .ok (.value v') w':=by
                      simp only[execOp,hop,resolve];simp[invoke,builtin,r1]
                     unfold Oper.wp;rw[he];rw[hq] at hh hn;obtain⟨hgq,hb,_⟩:=Mq hh;show next (a.put o.dst _) _
                     rw[hq];refine hn (grown ν src q v') v' w' (I.grow hU g3 hgq hb r3 ?_ r4 (λm hL=> ?_) _)
                     · rcases r2.2 with⟨z,_⟩ | ⟨_,_,_,z,_⟩<;>rw[z]<;>rfl
                     · have hνq:grown ν src q v' q=v':=BQ
                       refine⟨⟨⟨inner++news,by rw[hνq,ANT];exact r2, ?_⟩,λk hk=> ?_⟩,D3 (c:= .own q) ⟨?_, ?_⟩⟩
                       · have:=zq (by rw[Pu] at g2;exact g2) n3
                         rw[Pu];exact this.Gh λ_ _ z=>z.move m
                       · rw[hνq] at hk
                         have hk:v'.ownBlock=some k:=by
                          rcases r2.2 with⟨z,_⟩ | ⟨_,_,_,z,_⟩<;>rw[z] at hk ⊢ <;>exact hk
                         rcases r4 with z | z
                         · exact g4 k (z.symm.trans hk)
                         · rw[z] at hk;injection hk with hk;exact KQ.new (hk▸I.fr.size)
                       · exact⟨_,AN2 (by
                          have:=(ANN.1 hgq).1;have hlen : ∀(l:List (Nat × AB)),(DB l hp).length=hp.length:=by
                           intro l;induction l with
                           | nil=>rfl
                           | cons p l ih=>simp[DB,ih]
                          rw[hlen];exact this),hb⟩
                       · rw[hνq]
                         rcases r2.2 with⟨z,_⟩ | ⟨_,_,_,z,_⟩<;>rw[z]<;>rfl
                 · cases h
               · cases h
             · cases h
           · cases h
         · cases h
       · cases h
     · cases h
   · cases h
 · cases h
end
end
section
section
variable {P:Program} {Θ:JE} {S:FuncId->Option FE} {k:Nat} {o:Oper} {U0:Nat->Prop} {ν:Nat->Value} {tm:List AV} {hp:List AB} {w0:St} {w:World} {a:Act} {R:Type} {K:AV->HC->Tree R} {r:R}
theorem ZG (I:Inv U0 ν tm hp w0 a w) {x:Option Operand} {l:Option Int} (h:NJ tm x=some l):(x=none/\l=none)\/ ∃k n,l=some n/\x.map a.eval=some (.int k n):=by
 unfold NJ at h;split at h
 · injection h with h;exact .inl ⟨rfl,h.symm⟩
 · rename_i o'
   split at h
   · rename_i kk n hx
     injection h with h;have hv:=Fc (hx▸I.AQ o');exact .inr ⟨kk,n,h.symm,by simp[hv]⟩
   · cases h
theorem aG (I:Inv U0 ν tm hp w0 a w) {b:Bool} {len cap:Nat} {lo hi:Option Operand} {l h:Option Int} (hl:NJ tm lo=some l) (hh:NJ tm hi=some h) (h0:0<=l.getD 0) (h1:l.getD 0<=h.getD len) (h2:h.getD len<=cap) :
 (Instr.sliceBounds b len cap (lo.map a.eval) (hi.map a.eval) none).run P w= .ok ((l.getD 0).toNat,(h.getD len).toNat,cap) w:=by
 rcases ZG I hl with⟨e1,e2⟩ | ⟨k1,n1,e1,e2⟩<;>rcases ZG I hh with⟨f1,f2⟩ | ⟨k2,n2,f1,f2⟩
 · subst e1 e2 f1 f2
   simp[Instr.sliceBounds]
 · subst e1 e2 f1
   simp only[APa,Option.getD_none] at h0 h1 h2 ⊢;simp[Instr.sliceBounds,f2,run_sliceBound w k2 n2 cap _ h1 h2]
 · subst e1 f1 f2
   simp only[APa,Option.getD_none] at h0 h1 h2 ⊢;simp[Instr.sliceBounds,e2,run_sliceBound w k1 n1 len _ h0 h1]
 · subst e1 f1
   simp only[APa] at h0 h1 h2 ⊢;have hb:n1<=((n2.toNat:Nat):Int):=(by omega);simp[Instr.sliceBounds,e2,f2,run_sliceBound w k2 n2 cap _ (by omega) h2,run_sliceBound w k1 n1 n2.toNat _ h0 hb]
theorem AE1 {U:Nat->Prop} {e:TypeId} {t:Ty} {xs:List (T t)} {A:Option Addr} {cp l h:Nat} (hr:Rd U w (.row e t) xs [.slice A (List.length xs) cp]) (hl:l<=h) (hh:h<=List.length xs) :
 Rd U w (.row e t) ((xs.take h).drop l) [.slice (if cp=l then A else A.map (·.add (l*t.size))) (h-l) (cp-l)]:=by
 obtain⟨A',cp',h1,h2,h3,h4⟩:=hr;have h1:=(AOM h1).1;injection h1 with e1 e2 e3;subst e1 e3;have hlen:((xs.take h).drop l).length=h-l:=by rw[ANo,ANO];omega
 refine⟨_,cp-l,by rw[hlen], ?_, ?_,λhn=> ?_⟩
 · show((xs.take h).drop l).length<=_
   omega
 · show((xs.take h).drop l).length<=_
   have:List.length xs<=9223372036854775807:=h3;omega
 · have hn:0<((xs.take h).drop l).length:=hn
   obtain⟨ad,rfl,h5⟩:=h4 (show 0<List.length xs by omega);have:List.length xs<=cp:=h2;refine⟨ad.add (l*t.size),by rw[if_neg (by omega)];rfl,λj p hj=> ?_⟩;have hj:((xs.take h).drop l)[j]? =some p:=hj;rw[ANj,ANg] at hj;split at hj
   · obtain⟨c',q1,q2⟩:=h5 (l+j) p hj
     refine⟨c',q1,λi u hu=> ?_⟩;have:=q2 i u hu;rw[add_add,show l*t.size+(j*t.size+i)=(l+j)*t.size+i by rw[AO5,AOt]];exact this
   · cases hj
theorem zu {t e:TypeId} {b sz n:Nat} {v:Value} {inner:List Value} (hd:P.underlying t=some (.slice e)) (hs:(sizeOf e).run P w= .ok sz w) (ho:Ow w b e sz v n inner) {k1 k2:IntKind} {h g:Int} (h0:0<=h) (h1:h<=g) (h2:g<=n) :
 ∃v',(Instr.slice t v none (some (.int k1 h)) (some (.int k2 g))).run P w= .ok v' w/\Ow w b e sz v' h.toNat (inner.take (h.toNat*sz))/\v'.ownBlock=v.ownBlock/\C4 v'=v'.ownBlock:=by
 have hl:=ho.1;have hlen:(inner.take (h.toNat*sz)).length=h.toNat*sz:=by
  rw[ANO,hl];exact ANb (ANV _ (by omega))
 have hgt:h<=((g.toNat:Nat):Int):=by omega
 rcases ho.2 with⟨rfl,hn⟩ | ⟨g0,cap,cur,rfl,h3,h4,h5,h6,h7,h8⟩
 · obtain rfl:g=0:=by omega
   obtain rfl:h=0:=by omega
   refine⟨.slice none 0 0, ?_,⟨hlen, .inl ⟨rfl,rfl⟩⟩,rfl,rfl⟩;simp[Instr.slice,run_underlying hd,Instr.sliceBounds,run_sliceBound w k1 0 0 _ (APF _) (APF _),run_sliceBound w k2 0 0 _ (APF _) (APF _),hs]
 · refine⟨.slice (some ⟨g0,0,none⟩) h.toNat g.toNat, ?_,⟨hlen, .inr ⟨g0,g.toNat,cur,rfl,h3,h4,by omega,by omega,AN6 (ANV _ (show g.toNat<=cap by omega)) h7, ?_⟩⟩,rfl,rfl⟩
   · simp[Instr.slice,run_underlying hd,Instr.sliceBounds,run_sliceBound w k1 h g.toNat _ h0 hgt,run_sliceBound w k2 g cap _ (by omega) (show g<=(cap:Int) by omega),hs]
     exact λ_=>rfl
   · rw[<-h8,API,ANb (ANV _ (by omega))]
theorem ACY (hΘ:Θ.ok P=true) (I:Inv U0 ν tm hp w0 a w) (hU : ∀k,U0 k->k<w0.heap.size) {t e:TypeId} {x hi mx:Operand} {i z:TI} {ty:Ty} {c:AC} {h g:Int} {q:Nat} {src:List (Nat × AB)} {lq:Lq} {xs:List (T ty)} (ho:o.op= .slice t x none (some hi) (some mx))
 (yD:ti Θ t=some i) (hk:i.kind= .slice e) (hz:ti Θ e=some z) (hsz:z.size=ty.size) (hx:AQ tm x= .val [c]) (hh:NJ tm (some hi)=some (some h)) (hg:NJ tm (some mx)=some (some g)) (hq:o.dst=some q) (hgr:Jo hp e ty c=some (src,lq,xs)) (h0:(0:Int)<=h) (h1:h<=g) (h2:g<=(List.length xs:Int))
 (hK:(K (.val [.own q]) ⟨some (.row lq e ty (xs.take h.toNat)),src⟩).run=some r):CX P Θ S k o U0 ν tm hp w0 a w K r:=by
 obtain⟨_,d,_,hd,_,_,hB,_⟩:=BO hΘ yD;rw[hk] at hB;rw[IE hB] at hd;obtain⟨f,_,SW,_,hs,_⟩:=BO hΘ hz;have Pu:=Ey ty;obtain⟨inner,g1,g2,g3,g4⟩:=nN I hgr (val_one (hx▸I.AQ x));have hs1:(sizeOf e).run P w= .ok (kd ty).sz w:=by simp[sizeOf,typeInfo,SW,hs,hsz,Pu]
 obtain⟨k1,e1⟩ : ∃k1,a.eval hi= .int k1 h:=by
  rcases ZG I hh with⟨z,_⟩ | ⟨k1,n1,z,z2⟩
  · cases z
  · injection z with z;subst z;exact⟨k1,by simpa using z2⟩
 obtain⟨k2,e2⟩ : ∃k2,a.eval mx= .int k2 g:=by
  rcases ZG I hg with⟨z,_⟩ | ⟨k1,n1,z,z2⟩
  · cases z
  · injection z with z;subst z;exact⟨k1,by simpa using z2⟩
 obtain⟨v',r1,r2,r3,r4⟩:=zu (P:=P) (t:=t) hd hs1 g1 (k1:=k1) (k2:=k2) h0 h1 h2;refine⟨_,_,hK, ?_⟩;intro hh' next Q hn
 have he:(execOp a.eval o).run P w= .ok (.value v') w:=by
  have hel:P.elem t=e:=by simp[Program.elem,hd]
  have hu:P.underlying t=some (.slice (P.elem t)):=by rw[hel];exact hd
  simp only[execOp,ho,AQg,APi,e1,e2];simp[run_sliceAt_slice w t _ _ _ _ hu,r1,Result.andThen]
 unfold Oper.wp;rw[he];rw[hq] at hh' hn;obtain⟨hgq,hb,_⟩:=Mq hh';show next (a.put o.dst _) _
 rw[hq];refine hn (grown ν src q v') v' w (I.grow hU g3 hgq hb (World.grownBy.refl w _) r4 (.inl r3) (λm hL=> ?_) _);have hνq:grown ν src q v' q=v':=BQ;have hlt:(List.take h.toNat xs).length=h.toNat:=by rw[ANO];omega
 refine⟨⟨⟨_,by rw[hνq,hlt];exact r2, ?_⟩,λk hk=> ?_⟩,D3 (c:= .own q) ⟨?_, ?_⟩⟩
 · have hle:h.toNat<=List.length xs:=by omega
   have:=RX g2 hle;exact this.Gh λ_ _ z=>z.move m
 · rw[hνq,r4,r3] at hk
   exact g4 k hk
 · exact⟨_,AN2 (by
    have:=(ANN.1 hgq).1;have hlen : ∀(l:List (Nat × AB)),(DB l hp).length=hp.length:=by
     intro l;induction l with
     | nil=>rfl
     | cons p l ih=>simp[DB,ih]
    rw[hlen];exact this),hb⟩
 · rw[hνq]
   rcases r2.2 with⟨z,_⟩ | ⟨_,_,_,z,_⟩<;>rw[z]<;>rfl
theorem ok_slice (hΘ:Θ.ok P=true) (I:Inv U0 ν tm hp w0 a w) (hU : ∀k,U0 k->k<w0.heap.size) {t:TypeId} {x:Operand} {lo hi mx:Option Operand} (ho:o.op= .slice t x lo hi mx) (h:(stepT Θ S k tm hp o.dst (.slice t x lo hi mx) K).run=some r):CX P Θ S k o U0 ν tm hp w0 a w K r:=by
 simp only[stepT] at h;split at h
 · rename_i i yD
   split at h
   · rename_i e c l h' hk hx hl hh
     split at h
     · rename_i z hz
       split at h
       · rename_i ty hty
         split at h
         · rename_i hsz
           split at h
           · rename_i xs hxs
             simp only[yx] at h;obtain⟨h0,h⟩:=Tree.need h;obtain⟨h1,h⟩:=Tree.need h;obtain⟨h2,h⟩:=Tree.need h;obtain⟨_,d,_,hd,_,_,hB,_⟩:=BO hΘ yD;rw[hk] at hB;rw[IE hB] at hd;obtain⟨f,_,SW,_,hs,_⟩:=BO hΘ hz;have hfz:=KS (hp:=hp) [c];obtain⟨ν',I'⟩:=I.IA hU hfz;have hv:=val_one (hx▸I'.AQ x);have htt:Ee hp (.row e ty) [c]=some (xs,[]):=by
              unfold Uc at hxs;split at hxs
              · rename_i ys hy;injection hxs with hxs;subst hxs;exact hy
              · cases hxs
             obtain⟨v1,v2,e1,e2,e3⟩:=nH I hU hfz (λj e t xs hj hb=>Mp hj hb) htt I' (vs:= [a.eval x]) ⟨hv,trivial⟩;have:v2= []:=by
              cases v2 with
              | nil=>rfl
              | cons _ _=>exact e3.elim
             subst this;rw[AOa] at e1;subst e1;obtain⟨A,cp,q1,q2,q3⟩:=e2;have q1:=(AOM q1).1;have hrd:Rd (Un U0 ν' (lv (DB (Kb hp [c]) hp))) w (.row e ty) xs [.slice A (List.length xs) cp]:=⟨A,cp,rfl,q2,q3⟩;have hcp:h'.getD ((xs:List (T ty)).length:Int)<=(cp:Int):=APC h2 (by
              have:List.length xs<=cp:=q2
              exact_mod_cast this)
             have hb:=aG (P:=P) I' (b:=true) hl hh h0 h1 hcp;have hel:P.elem t=e:=(by simp[Program.elem,hd]);have hu:P.underlying t=some (.slice (P.elem t)):=(by rw[hel];exact hd);have hrun:(execOp a.eval o).run P w= .ok (.value (sliced A (l.getD 0).toNat (h'.getD ((xs:List (T ty)).length:Int)).toNat cp ty.size)) w:=by
              have hs1:(sizeOf e).run P w= .ok ty.size w:=(by simp[sizeOf,typeInfo,SW,hs,hsz]);simp only[execOp,ho,q1,AQg];simp[run_sliceAt_slice w t _ _ _ _ hu,run_slice_any w t A (List.length xs) cp hu,hb,hel,hs1,Result.andThen]
             refine⟨_,_,h, ?_⟩;intro _ next Q hn
             unfold Oper.wp;rw[hrun];exact hn ν' _ w (I'.P3 o.dst (D3 (c:= .ro (.row e ty) _) ⟨rfl,AE1 hrd (by omega) (by
              have:=h2;omega)⟩))
           · cases h
         · cases h
       · cases h
     · cases h
   · rename_i s l h' hk hx hl hh
     simp only[yx] at h;obtain⟨h0,h⟩:=Tree.need h;obtain⟨h1,h⟩:=Tree.need h;obtain⟨h2,h⟩:=Tree.need h;obtain⟨_,d,_,hd,_,_,hB,_⟩:=BO hΘ yD;rw[hk] at hB;rw[Ue hB] at hd;have hv:=Zp (hx▸I.AQ x);have hb:=aG (P:=P) I (b:=false) hl hh h0 h1 h2;refine⟨_,_,h,Ab I (v:= .string ((s:ByteArray).extract (l.getD 0).toNat (h'.getD ((s:ByteArray).size:Int)).toNat)) ?_ (D3 (c:= .ro .str _) ⟨rfl,rfl⟩)⟩;simp only[execOp,ho,hv,AQg];simp[run_sliceAt_string w t _ _ _ _ hd,Instr.slice,run_underlying hd,hb]
   · cases h
 · rename_i i m yD
   split at h
   · rename_i e c h' g' q hk hx hh hg hq
     split at h
     · rename_i z hz
       split at h
       · rename_i ty hty
         split at h
         · rename_i hsz
           split at h
           · rename_i src lq xs hgr
             obtain⟨h0,h⟩:=Tree.need h;obtain⟨h1,h⟩:=Tree.need h;obtain⟨h2,h⟩:=Tree.need h;cases hi with
             | none=>exact absurd hh (by simp[NJ])
             | some hi=>exact ACY hΘ I hU ho yD hk hz hsz hx hh hg hq hgr h0 h1 h2 h
           · cases h
         · cases h
       · cases h
     · cases h
   · cases h
 · cases h
end
end
section
section
variable {U0:Nat->Prop} {ν:Nat->Value} {tm:List AV} {hp:List AB} {w0:St} {w:World} {a:Act}
theorem JT : ∀ {cs:List AC},JJ cs=true-> ∀ {j:Nat},AC.own j ∉ cs
 | [],_,_=>by simp
 | c::cs,h,j=>λhj=>by
   cases c with
   | own i=>simp[JJ] at h
   | _ =>
     rcases ANM.1 hj with e | hj
     · cases e
     · exact JT (cs:=cs) (by simpa[JJ] using h) hj
theorem aH : ∀ {cs:List AC},(∀j,AC.own j ∉ cs)->JJ cs=true
 | [],_=>rfl
 | c::cs,h=>by
   cases c with
   | own i=>exact absurd ANH (h i)
   | _=>simpa[JJ] using aH (cs:=cs) λj hj=>h j (ANG _ hj)
theorem rV {cs:List AC} {n:Nat} (h:JJ cs=true):JJ (cs.take n)=true:=aH λj hj=>JT h (APU hj)
theorem rW {cs:List AC} {n:Nat} (h:JJ cs=true):JJ (cs.drop n)=true:=aH λj hj=>JT h (APV hj)
theorem Jp : ∀ {t:Ty} {cs rest:List AC} {x:T t},Ee hp t cs=some (x,rest)->rest=cs.drop t.size/\t.size<=cs.length
 | .cons p q,cs,rest,x,h=>by
   simp only[Ee] at h;split at h
   · rename_i x1 cs1 h1
     split at h
     · rename_i x2 cs2 h2
       injection h with h;injection h with hx hc;subst hc;obtain⟨e1,e2⟩:=Jp h1;obtain⟨e3,e4⟩:=Jp h2;subst e1;rw[ANo] at e4;refine⟨by rw[e3,APr];rfl,by show p.size+q.size<=_;omega⟩
     · cases h
   · cases h
 | .int _,cs,rest,x,h=>by
   match cs with
   | []=>simp[Ee] at h
   | c::cs =>
     cases c<;>simp only[Ee] at h<;>try (simp at h;done)
     split at h
     · rename_i e;subst e;injection h with h;injection h with _ h;subst h;exact⟨rfl,by show 1<=_;simp⟩
     · cases h
 | .bool,cs,rest,x,h=>by
   match cs with
   | []=>simp[Ee] at h
   | c::cs =>
     cases c<;>simp only[Ee] at h<;>try (simp at h;done)
     split at h
     · rename_i e;subst e;injection h with h;injection h with _ h;subst h;exact⟨rfl,by show 1<=_;simp⟩
     · cases h
 | .str,cs,rest,x,h=>by
   match cs with
   | []=>simp[Ee] at h
   | c::cs =>
     cases c<;>simp only[Ee] at h<;>try (simp at h;done)
     split at h
     · rename_i e;subst e;injection h with h;injection h with _ h;subst h;exact⟨rfl,by show 1<=_;simp⟩
     · cases h
 | .row _ _,cs,rest,x,h=>by
   match cs with
   | []=>simp[Ee] at h
   | c::cs =>
     cases c with
     | ro t y =>
       simp only[Ee] at h;split at h
       · rename_i e;subst e;injection h with h;injection h with _ h;subst h;exact⟨rfl,by show 1<=_;simp⟩
       · cases h
     | Bo=>simp only[Ee] at h;injection h with h;injection h with _ h;subst h;exact⟨rfl,by show 1<=_;simp⟩
     | own j =>
       simp only[Ee] at h;split at h
       · injection h with h;injection h with _ h;subst h;exact⟨rfl,by show 1<=_;simp⟩
       · cases h
     | _=>simp[Ee] at h
theorem aI : ∀ {t:Ty} {cs rest:List AC} {x:T t} {n:Nat},Ee hp t cs=some (x,rest)->t.size<=n->Ee hp t (cs.take n)=some (x,rest.take (n-t.size))
 | .cons p q,cs,rest,x,n,h,hn=>by
   simp only[Ee] at h;split at h
   · rename_i x1 cs1 h1
     split at h
     · rename_i x2 cs2 h2
       injection h with h;injection h with hx hc;subst hx hc;have hn:p.size+q.size<=n:=hn;simp only[Ee,aI h1 (show p.size<=n by omega),aI h2 (show q.size<=n-p.size by omega)];rw[Nat.sub_sub];rfl
     · cases h
   · cases h
 | .int kk,cs,rest,x,n,h,hn=>by
   match cs with
   | []=>simp[Ee] at h
   | c::cs =>
     obtain⟨m,rfl⟩ : ∃m,n=m+1:=⟨n-1,by have:1<=n:=hn;omega⟩;rw[APf,show m+1-Ty.size (.int kk)=m from APL ..];cases c<;>simp only[Ee] at h ⊢ <;>try (simp at h;done)
     split at h
     · rename_i e
       subst e;injection h with h;injection h with h1 h2;subst h2;subst h1;simp
     · cases h
 | .bool,cs,rest,x,n,h,hn=>by
   match cs with
   | []=>simp[Ee] at h
   | c::cs =>
     obtain⟨m,rfl⟩ : ∃m,n=m+1:=⟨n-1,by have:1<=n:=hn;omega⟩;rw[APf,show m+1-Ty.size .bool=m from APL ..];cases c<;>simp only[Ee] at h ⊢ <;>try (simp at h;done)
     split at h
     · rename_i e
       subst e;injection h with h;injection h with h1 h2;subst h2;subst h1;simp
     · cases h
 | .str,cs,rest,x,n,h,hn=>by
   match cs with
   | []=>simp[Ee] at h
   | c::cs =>
     obtain⟨m,rfl⟩ : ∃m,n=m+1:=⟨n-1,by have:1<=n:=hn;omega⟩;rw[APf,show m+1-Ty.size .str=m from APL ..];cases c<;>simp only[Ee] at h ⊢ <;>try (simp at h;done)
     split at h
     · rename_i e
       subst e;injection h with h;injection h with h1 h2;subst h2;subst h1;simp
     · cases h
 | .row e t,cs,rest,x,n,h,hn=>by
   match cs with
   | []=>simp[Ee] at h
   | c::cs =>
     obtain⟨m,rfl⟩ : ∃m,n=m+1:=⟨n-1,by have:1<=n:=hn;omega⟩;rw[APf,show m+1-Ty.size (.row e t)=m from APL ..];cases c with
     | ro t' y =>
       simp only[Ee] at h ⊢;split at h
       · rename_i e
         subst e;injection h with h;injection h with h1 h2;subst h2;subst h1;simp
       · cases h
     | Bo=>simp only[Ee] at h ⊢;injection h with h;injection h with h1 h2;subst h2;subst h1;rfl
     | own j =>
       simp only[Ee] at h ⊢;split at h
       · rename_i xs e
         injection h with h;injection h with h1 h2;subst h2;subst h1;simp[e]
       · cases h
     | _=>simp[Ee] at h
theorem Z2 (I:Inv U0 ν tm hp w0 a w) {U:Nat->Prop} (hU : ∀k,k<w.heap.size->U k->Un U0 ν (lv hp) k) {t:Ty} {cs rest:List AC} {x:T t} {vs:List Value} (hm:Cc U ν hp (cs.take t.size)) (h:Ee hp t cs=some (x,rest)) (hr:CD (CW U0 ν (lv hp) w) cs vs):Rd U w t x (vs.take t.size)/\CD (CW U0 ν (lv hp) w) rest (vs.drop t.size):=by
 have h1:=aI h (ANS _);rw[AQJ,APZ] at h1;obtain⟨v1,v2,e1,e2,e3,_⟩:=Kk I hU hm h1 (hr.take t.size);have:v2= []:=by
  cases v2 with
  | nil=>rfl
  | cons _ _=>exact e3.elim
 subst this;rw[AOa] at e1;refine⟨e1▸e2, ?_⟩;rw[(Jp h).1];exact hr.drop t.size
theorem WW {hp B0:List AB} : ∀ {t:Ty} {cs:List AC},JJ (cs.take t.size)=true->Ee hp t cs=Ee B0 t cs
 | .cons p q,cs,h=>by
   have h1:JJ (cs.take p.size)=true:=by
    have:cs.take p.size=(cs.take (p.size+q.size)).take p.size:=(by rw[API,ANb (by omega)]);rw[this];exact rV h
   simp only[Ee,WW (hp:=hp) (B0:=B0) h1];cases hx:Ee B0 p cs with
   | none=>rfl
   | some y =>
     obtain⟨x,cs'⟩:=y;obtain⟨rfl,_⟩:=Jp hx;have h2:JJ ((cs.drop p.size).take q.size)=true:=by
      have:(cs.drop p.size).take q.size=(cs.take (p.size+q.size)).drop p.size:=(by rw[APp];congr 1;omega);rw[this];exact rW h
     simp only[WW (hp:=hp) (B0:=B0) h2]
 | .int kk,cs,h=>by cases cs with
   | nil=>rfl
   | cons c cs=>cases c<;>rfl
 | .bool,cs,h=>by cases cs with
   | nil=>rfl
   | cons c cs=>cases c<;>rfl
 | .str,cs,h=>by cases cs with
   | nil=>rfl
   | cons c cs=>cases c<;>rfl
 | .row e t,cs,h=>by cases cs with
   | nil=>rfl
   | cons c cs=>cases c<;>first | rfl | (simp[Ty.size,JJ] at h)
end
section
variable {P:Program} {Θ:JE} {S:FuncId->Option FE} {k:Nat} {o:Oper} {U0:Nat->Prop} {ν:Nat->Value} {tm:List AV} {hp:List AB} {w0:St} {w w':World} {a:Act} {R:Type} {K:AV->HC->Tree R} {r:R}
theorem QD {e:TypeId} {sz n b:Nat} {v:Value} {xs:List Value} (h:Ow w b e sz v n xs):Ow w 0 e sz v n xs:=by
 refine⟨h.1, ?_⟩;rcases h.2 with q | ⟨g,cap,cur,q1,q2,q3⟩
 · exact .inl q
 · exact .inr ⟨g,cap,cur,q1,APm _,q3⟩
theorem Z8 {e:TypeId} {sz n b:Nat} {v:Value} {xs:List Value} (h:Ow w 0 e sz v n xs) (hb : ∀k,C4 v=some k->b<=k):Ow w b e sz v n xs:=by
 refine⟨h.1, ?_⟩;rcases h.2 with q | ⟨g,cap,cur,q1,q2,q3⟩
 · exact .inl q
 · exact .inr ⟨g,cap,cur,q1,hb g (by rw[q1];rfl),q3⟩
theorem G7 {e:TypeId} {sz n b:Nat} {v:Value} {xs:List Value} (h:Ow w b e sz v n xs):ref v=v/\ ∃A c,v= .slice A n c:=by
 rcases h.2 with⟨q,z⟩ | ⟨g,cap,cur,q1,_⟩
 · rw[q,z];exact⟨rfl,_,_,rfl⟩
 · rw[q1];exact⟨rfl,_,_,rfl⟩
def iw (ν:Nat->Value) (l:List Nat):List Nat:=l.flatMap λj=>(C4 (ν j)).toList
theorem Kl {l:List Nat} {k:Nat} :k∈iw ν l↔ ∃j∈l,C4 (ν j)=some k:=by
 unfold iw;simp[AOq]
theorem Tl : ∀ {l:List Nat},Zn l=true->l.Nodup
 | [],_=>AQQ
 | a::l,h=>by
   simp only[Zn,ANQ,AOc,AOp,decide_eq_false_iff_not] at h;exact AOQ.2 ⟨h.1,Tl h.2⟩
theorem WV (I:Inv U0 ν tm hp w0 a w) : ∀ {l:List Nat},l.Nodup->(∀j∈l,lv hp j)->(iw ν l).Nodup
 | [],_,_=>AQQ
 | j::l,h,hl=>by
   obtain⟨h1,h2⟩:=AOQ.1 h;have ih:=WV I h2 λi hi=>hl i (ANG _ hi)
   show((C4 (ν j)).toList++iw ν l).Nodup;cases hb:C4 (ν j) with
   | none=>simpa using ih
   | some k =>
     refine AOQ.2 ⟨λhk=> ?_,ih⟩;obtain⟨i,hi,rR⟩:=Kl.1 hk;exact I.qV j i (λe=>h1 (e▸hi)) (hl j ANH) (hl i (ANG _ hi)) k hb rR
theorem jD (I:Inv U0 ν tm hp w0 a w) : ∀ {fs:List FK} {cs:List AC} {x:FT fs} {us:List Value},JK hp fs cs=some x->CD (CW U0 ν (lv hp) w) cs us->iq (Un U0 ν (lv hp)) w fs x us (iw ν (Gi fs cs))/\ ∀j∈Gi fs cs,lv hp j
 | [],[],x,us,h,hr=>by
   have:us= []:=by
    cases us with
    | nil=>rfl
    | cons _ _=>exact hr.elim
   exact⟨⟨this,rfl⟩,λj hj=>by simp[Gi] at hj⟩
 | [],_::_,x,us,h,hr=>by simp[JK] at h
 | .ty t::l,cs,x,us,h,hr=>by
   simp only[JK] at h;split at h
   · rename_i hn
     split at h
     · rename_i y cs' hy
       split at h
       · rename_i ys hys
         injection h with h;subst h;obtain⟨rfl,_⟩:=Jp hy;obtain⟨q1,q2⟩:=Z2 I (U:=Un U0 ν (lv hp)) (λ_ _ h=>h) (λj e t' xs hj hb=>absurd hj (JT hn)) hy hr;obtain⟨z1,z2⟩:=jD I hys q2;exact⟨⟨_,_,(AOm t.size us).symm,q1,z1⟩,z2⟩
       · cases h
     · cases h
   · cases h
 | .row kp e t::l,[],x,us,h,hr=>by cases kp<;>simp[JK] at h
 | .row kp e t::l,c::cs,x,[],h,hr=>hr.elim
 | .row kp e t::l,c::cs,x,u::us,h,hr=>by
   have own : ∀ {j:Nat} {lq:Lq} {e':TypeId} {t':Ty} {xs:List (T t')},c= .own j->hp[j]? =some (.row lq e' t' xs)->(if h:e'=e/\t'=t then(match JK hp l cs with
    | some y=>h.2▸some (xs,y)
    | none=>none) else none)=some x->iq (Un U0 ν (lv hp)) w (.row kp e t::l) x (u::us) (iw ν (j::Gi l cs))/\ ∀i∈j::Gi l cs,lv hp i:=by
    clear h;intro j lq e' t' xs hc hb h;subst hc;split at h
    · rename_i q
      obtain⟨rfl,rfl⟩:=q;split at h
      · rename_i ys hys
        injection h with h;subst h;obtain⟨z1,z2⟩:=jD I hys hr.2;obtain⟨⟨inner,y1,y2⟩,_⟩:=I.mem j _ hb rfl;have hu:u=ν j:=hr.1.2.trans (G7 y1).1;subst hu;refine⟨⟨inner,_,QD y1,y2,rfl,z1⟩,λi hi=> ?_⟩;rcases ANM.1 hi with rfl | hi
        · exact⟨_,hb,rfl⟩
        · exact z2 i hi
      · cases h
    · cases h
   cases kp with
   | true =>
     cases c with
     | own j =>
       simp only[JK] at h;split at h
       · rename_i lq e' t' xs hb
         exact own rfl hb h
       · cases h
     | _=>simp[JK] at h
   | false =>
     cases c with
     | own j =>
       simp only[JK] at h;split at h
       · rename_i e' t' xs hb
         exact own rfl hb h
       · rename_i e' t' xs hb
         exact own rfl hb h
       · cases h
     | Bo =>
       simp only[JK] at h;split at h
       · rename_i ys hys
         injection h with h;subst h;obtain⟨z1,z2⟩:=jD I hys hr.2;have hu:u= .slice none 0 0:=hr.1;subst hu;exact⟨⟨[],_,iE w _ _ _,Bn.none _ _,rfl,z1⟩,z2⟩
       · cases h
     | _=>simp[JK] at h
def uV (hp:List AB) (tm:List AV):List PK->List Operand->Prop
 | .ty _::ts,o::os=>(∀j e t xs,AC.own j∈cellsOf (AQ tm o)->hp[j]? ≠some (.row .mine e t xs))/\uV hp tm ts os
 | _::ts,_::os=>uV hp tm ts os
 | _,_=>True
theorem jE (I:Inv U0 ν tm hp w0 a w) : ∀ {ps:List PK} {os:List Operand} {x:PT ps},uV hp tm ps os->CJ hp tm ps os=some x->rO (Un U0 ν (lv hp)) w ps x (os.map a.eval) (iw ν (Dq hp tm ps os))/\ ∀j∈Dq hp tm ps os,lv hp j
 | [],[],x,ht,h=>⟨⟨rfl,rfl⟩,λj hj=>by simp[Dq] at hj⟩
 | [],_::_,x,ht,h=>by simp[CJ] at h
 | .ty t::ts,o::os,x,ht,h=>by
   simp only[CJ] at h;split at h
   · rename_i cs hc
     split at h
     · rename_i y hy
       split at h
       · rename_i ys hys
         injection h with h;subst h;obtain⟨vs,h1,h2⟩:=hc▸I.AQ o;obtain⟨v1,v2,rfl,q1,q2,_⟩:=Kk I (U:=Un U0 ν (lv hp)) (λ_ _ h=>h) (λj e t' xs hj hb=>absurd hb (ht.1 j e t' xs (by rw[hc];exact hj))) hy h2;have:v2= []:=by
          cases v2 with
          | nil=>rfl
          | cons _ _=>exact q2.elim
         subst this;rw[AOa] at h1;obtain⟨z1,z2⟩:=jE I ht.2 hys;exact⟨⟨⟨v1,h1,q1⟩,z1⟩,z2⟩
       · cases h
     · cases h
   · cases h
 | .st e fs::ts,o::os,x,ht,h=>by
   simp only[CJ] at h;split at h
   · rename_i j hc
     split at h
     · rename_i lq e' cs hb
       split at h
       · rename_i he
         subst he;split at h
         · rename_i y hy
           split at h
           · rename_i ys hys
             injection h with h;subst h;obtain⟨hj,g,hν,hv⟩:=val_one (hc▸I.AQ o);obtain⟨g',vs,h1,h2,h3,h4,h5⟩:=I.cells hb;rw[hν] at h1;injection h1 with h1;injection h1 with h1;injection h1 with h1;subst h1;obtain⟨f1,f2⟩:=jD I hy h4;obtain⟨z1,z2⟩:=jE I (ps:=ts) ht hys;have hid:Dq hp tm (.st e' fs::ts) (o::os)=j::(Gi fs cs++Dq hp tm ts os):=(by simp only[Dq,hc,hb]);rw[hid];refine⟨⟨g,vs,_,_,hv,h3,f1, ?_,z1⟩,λi hi=> ?_⟩
             · unfold iw
               rw[AOg,AOz,hν];rfl
             · rcases ANM.1 hi with rfl | hi
               · exact⟨_,hb,rfl⟩
               · exact(ANp.1 hi).elim (f2 i) (z2 i)
           · cases h
         · cases h
       · cases h
     · cases h
   · cases h
 | .KR e t::ts,o::os,x,ht,h=>by
   simp only[CJ] at h;split at h
   · rename_i j hc
     split at h
     · rename_i lq e' t' xs hb
       split at h
       · rename_i q
         obtain⟨rfl,rfl⟩:=q;split at h
         · rename_i ys hys
           injection h with h;subst h;obtain⟨hj,hv⟩:=val_one (hc▸I.AQ o);obtain⟨⟨inner,y1,y2⟩,_⟩:=I.mem j _ hb rfl;have hv:a.eval o=ν j:=hv.trans (G7 y1).1;obtain⟨z1,z2⟩:=jE I (ps:=ts) ht hys;have hid:Dq hp tm (.KR e' t'::ts) (o::os)=j::Dq hp tm ts os:=(by simp only[Dq,hc]);rw[hid];refine⟨⟨inner,_,by rw[hv];exact QD y1,y2,by rw[hv];rfl,z1⟩,λi hi=> ?_⟩;rcases ANM.1 hi with rfl | hi
           · exact⟨_,hb,rfl⟩
           · exact z2 i hi
         · cases h
       · cases h
     · cases h
   · cases h
 | .ty _::_,[],x,ht,h=>by simp[CJ] at h
 | .st _ _::_,[],x,ht,h=>by simp[CJ] at h
 | .KR _ _::_,[],x,ht,h=>by simp[CJ] at h
def QH (ν:Nat->Value):List FK->List AC->List Value->Nat->List (Nat × Value)
 | .ty t::l,cs,us,b=>QH ν l (cs.drop t.size) (us.drop t.size) b
 | .row true _ _::l, .own j::cs,_::us,b=>(j,ν j)::QH ν l cs us b
 | .row false _ _::l, .own j::cs,u::us,b=>(b,u)::(j, .tuple #[ν j])::QH ν l cs us (b+1)
 | .row false _ _::l,_::cs,u::us,b=>(b,u)::QH ν l cs us (b+1)
 | _,_,_,_=> []
def Kp1 (ν:Nat->Value) (p:Nat × Value):Prop:=p.2=ν p.1\/ ∃a n c,ν p.1= .slice a n c/\p.2= .tuple #[ν p.1]
structure Aft (hp:List AB) (ν:Nat->Value) (N:List (Nat × Value)) (E:List (Nat × AB)) (bl ids news:List Nat):Prop where
 names:E.map (·.1)=N.map (·.1)
 jF:bl=N.flatMap λp=>(C4 p.2).toList
 mem : ∀i,i∈N.map (·.1)↔i∈ids\/i∈news
 nodup:ids.Nodup->news.Nodup->(∀i∈news,i ∉ ids)->(N.map (·.1)).Nodup
 live : ∀p∈E,EI p.2=false
 kp : ∀p∈N,p.1∈news\/Kp1 ν p
 fx : ∀i∈ids,∀b0,hp[i]? =some b0->P0 b0=true->(i,ν i)∈N/\ ∃b',(i,b')∈E/\P0 b'=true
theorem Uw (I:Inv U0 ν tm hp w0 a w) {U:Nat->Prop} {rq:Lq} : ∀ {fs:List FK} {cs:List AC} {x:FT fs} {y:FT fs} {us us':List Value} {bl:List Nat} (b:Nat),JK hp fs cs=some x->CD (CW U0 ν (lv hp) w) cs us->iq U w' fs y us' bl->PM fs us us'->(∀k∈bl,KQ w0 rq k) ->
 Aft hp ν (QH ν fs cs us' b) (DX hp rq fs y cs b).2 bl (Gi fs cs) ((List.range (Em fs)).map (b+ ·)) /\
 ∀(ν2:Nat->Value) (L2:Nat->Prop),(∀p∈QH ν fs cs us' b,ν2 p.1=p.2/\L2 p.1)->Move U w' w' (Un U0 ν2 L2)->CD (CW U0 ν2 L2 w') (DX hp rq fs y cs b).1 us'/\ ∀p∈(DX hp rq fs y cs b).2,SN U0 ν2 L2 w0 w' p.1 p.2
 | [],[],x,y,us,us',bl,b,h,hr,hf,hk,hm=>by
   obtain⟨rfl,rfl⟩:=hf;exact⟨⟨rfl,rfl,λi=>by simp[QH,Gi,Em],λ_ _ _=>AQQ,λp hp=>by simp[DX] at hp,λp hp=>by simp[QH] at hp,λi hi=>by simp[Gi] at hi⟩,λν2 L2 _ _=>⟨trivial,λp hp=>by simp[DX] at hp⟩⟩
 | [],_::_,x,y,us,us',bl,b,h,hr,hf,hk,hm=>by simp[JK] at h
 | .ty t::l,cs,x,y,us,us',bl,b,h,hr,hf,hk,hm=>by
   simp only[JK] at h;split at h
   · rename_i hn
     split at h
     · rename_i x1 cs' hy
       split at h
       · rename_i ys hys
         obtain⟨rfl,_⟩:=Jp hy;obtain⟨v1,v2,rfl,q1,q2⟩:=hf;have hl:v1.length=t.size:=(by rw[(kd t).Dr q1.K,Ey]);have e2:(v1++v2).drop t.size=v2:=(by rw[<-hl,AQM]);have hk':PM l (us.drop t.size) v2:=by
          have:=hk;simp only[PM] at this;rw[e2] at this;exact this
         obtain⟨A,B⟩:=Uw I (rq:=rq) b hys (hr.drop t.size) q2 hk' hm;have e3:QH ν (.ty t::l) cs (v1++v2) b=QH ν l (cs.drop t.size) v2 b:=(by simp only[QH,e2]);refine⟨⟨by rw[e3];exact A.names,by rw[e3];exact A.jF,by rw[e3];exact A.mem,by rw[e3];exact A.nodup,A.live,by rw[e3];exact A.kp,by rw[e3];exact A.fx⟩,λν2 L2 h1 h2=> ?_⟩;rw[e3] at h1;obtain⟨z1,z2⟩:=B ν2 L2 h1 h2;exact⟨(Gj t y.1 (q1.move h2)).app z1,z2⟩
       · cases h
     · cases h
   · cases h
 | .row kp e t::l,[],x,y,us,us',bl,b,h,hr,hf,hk,hm=>by cases kp<;>simp[JK] at h
 | .row kp e t::l,c::cs,x,y,[],us',bl,b,h,hr,hf,hk,hm=>hr.elim
 | .row kp e t::l,c::cs,x,y,u::us,[],bl,b,h,hr,hf,hk,hm=>hf.elim
 | .row true e t::l,c::cs,x,y,u::us,v::us',bl,b,h,hr,hf,hk,hm=>by
   cases c with
   | own j =>
     simp only[JK] at h;split at h
     · rename_i lq e' t' xs hb
       split at h
       · rename_i q
         obtain⟨rfl,rfl⟩:=q;split at h
         · rename_i ys hys
           obtain⟨inner,b2,f1,f2,rfl,f3⟩:=hf;obtain⟨rfl,hk⟩:v=u/\PM l us us':=hk;obtain⟨A,B⟩:=Uw I (rq:=rq) b hys hr.2 f3 hk (λk hk=>hm k (ANK _ hk));obtain⟨⟨zw,y1,y2⟩,y3⟩:=I.mem j _ hb rfl;have hu:v=ν j:=hr.1.2.trans (G7 y1).1;have e3:(DX hp rq (.row true e' t'::l) y (.own j::cs) b).2=(j, .row lq e' t' y.1)::(DX hp rq l y.2 cs b).2:=(by simp only[DX,hb]);rw[e3];refine⟨⟨?_, ?_,λi=> ?_,λn1 n2 n3=> ?_,λp hp=> ?_,λp hp=> ?_,λi hi b0 z1 z2=> ?_⟩,λν2 L2 h1 h2=> ?_⟩
           · simp only[QH,ANx,A.names]
           · simp only[QH,AOg,<-A.jF,hu]
           · simp only[QH,ANx,ANM,Gi,A.mem,Em,or_assoc]
           · simp only[QH,ANx]
             obtain⟨n1a,n1b⟩:=AOQ.1 (show(j::Gi l cs).Nodup from n1);refine AOQ.2 ⟨λhj=> ?_,A.nodup n1b n2 λi hi hi2=>n3 i hi (ANG _ hi2)⟩;rcases(A.mem j).1 hj with z | z
             · exact n1a z
             · exact n3 j z ANH
           · rcases ANM.1 hp with rfl | hp
             · rfl
             · exact A.live p hp
           · simp only[QH,ANM] at hp
             rcases hp with rfl | hp
             · exact .inr (.inl rfl)
             · exact A.kp p hp
           · rcases ANM.1 (show i∈j::Gi l cs from hi) with rfl | hi
             · rw[hb] at z1
               injection z1 with z1;subst z1;exact⟨by simp[QH],_,ANH,by cases lq<;>exact z2⟩
             · obtain⟨y1,b',y2,y3⟩:=A.fx i hi b0 z1 z2
               exact⟨ANG _ y1,b',ANG _ y2,y3⟩
           · have h0:=h1 (j,ν j) (by simp[QH])
             obtain⟨z1,z2⟩:=B ν2 L2 (λp hp=>h1 p (ANG _ hp)) h2;refine⟨⟨⟨h0.2,by rw[h0.1,<-hu];exact(G7 f1).1.symm⟩,z1⟩,λp hp=> ?_⟩;rcases ANM.1 hp with rfl | hp
             · refine⟨⟨inner, ?_,f2.Gh λ_ _ z=>z.move h2⟩,λk hk=> ?_⟩
               · rw[h0.1,<-hu]
                 refine Z8 f1 λk hk=>UZ (y3 k ?_)
                 rw[<-hu];exact hk
               · have:C4 (ν2 j)=some k:=hk
                 rw[h0.1] at this;exact y3 k this
             · exact z2 p hp
         · cases h
       · cases h
     · cases h
   | _=>simp[JK] at h
 | .row false e t::l,c::cs,x,y,u::us,v::us',bl,b,h,hr,hf,hk,hm=>by
   have hk:PM l us us':=hk;obtain⟨inner,b2,f1,f2,rfl,f3⟩:=hf;have hrg:(List.range (Em (.row false e t::l))).map (b+ ·)=b::(List.range (Em l)).map (b+1+ ·):=by
    show(List.range (Em l+1)).map (b+ ·)=_;rw[AQc,ANx,AQo]
    congr 1
    exact AOE λi _=>by simp only[Function.comp];omega
   have rel : ∀ {ν2:Nat->Value} {L2:Nat->Prop},ν2 b=v->Move U w' w' (Un U0 ν2 L2)->SN U0 ν2 L2 w0 w' b (.row rq e t y.1):=λ{ν2 L2} hb h2=>by
    refine⟨⟨inner, ?_,f2.Gh λ_ _ z=>z.move h2⟩,λk hk=> ?_⟩
    · rw[hb]
      exact Z8 f1 λk hk=>UZ (hm k (ANP _ (by rw[hk];simp)))
    · rw[hb] at hk
      exact hm k (ANP _ (by rw[hk];simp))
   have own : ∀ {j:Nat} {lq:Lq} {e':TypeId} {t':Ty} {xs:List (T t')},c= .own j->hp[j]? =some (.row lq e' t' xs)->P0 (.row lq e' t' xs)=false->(if h:e'=e/\t'=t then(match JK hp l cs with
    | some y=>h.2▸some (xs,y)
    | none=>none) else none)=some x->Aft hp ν (QH ν (.row false e t::l) (c::cs) (v::us') b) (DX hp rq (.row false e t::l) y (c::cs) b).2 ((C4 v).toList++b2) (Gi (.row false e t::l) (c::cs)) ((List.range (Em (.row false e t::l))).map (b+ ·)) /\
       ∀(ν2:Nat->Value) (L2:Nat->Prop),(∀p∈QH ν (.row false e t::l) (c::cs) (v::us') b,ν2 p.1=p.2/\L2 p.1)->Move U w' w' (Un U0 ν2 L2)->CD (CW U0 ν2 L2 w') (DX hp rq (.row false e t::l) y (c::cs) b).1 (v::us')/\ ∀p∈(DX hp rq (.row false e t::l) y (c::cs) b).2,SN U0 ν2 L2 w0 w' p.1 p.2:=by
    clear h;intro j lq e' t' xs hc hb hnf h;subst hc;split at h
    · rename_i q
      obtain⟨rfl,rfl⟩:=q;split at h
      · rename_i ys hys
        obtain⟨A,B⟩:=Uw I (rq:=rq) (b+1) hys hr.2 f3 hk (λk hk=>hm k (ANK _ hk));obtain⟨⟨zw,y1,y2⟩,y3⟩:=I.mem j _ hb rfl;have dQ:=(G7 y1).2;rw[hrg];refine⟨⟨?_, ?_,λi=> ?_,λn1 n2 n3=> ?_,λp hp=> ?_,λp hp=> ?_,λi hi b0 z1 z2=> ?_⟩,λν2 L2 h1 h2=> ?_⟩
        · simp only[QH,DX,ANx,A.names]
        · simp only[QH,AOg,<-A.jF]
          rfl
        · simp only[QH,ANx,ANM,Gi,A.mem]
          constructor
          · rintro(z | z | z | z)
            · exact .inr (.inl z)
            · exact .inl (.inl z)
            · exact .inl (.inr z)
            · exact .inr (.inr z)
          · rintro((z | z) | (z | z))
            · exact .inr (.inl z)
            · exact .inr (.inr (.inl z))
            · exact .inl z
            · exact .inr (.inr (.inr z))
        · obtain⟨n1a,n1b⟩:=AOQ.1 (show(j::Gi l cs).Nodup from n1)
          obtain⟨n2a,n2b⟩:=AOQ.1 n2;have A':=A.nodup n1b n2b λi hi hi2=>n3 i (ANG _ hi) (ANG _ hi2)
          simp only[QH,ANx];refine AOQ.2 ⟨λhj=> ?_,AOQ.2 ⟨λhj=> ?_,A'⟩⟩
          · rcases ANM.1 hj with z | z
            · exact n3 b ANH (z▸ANH)
            · rcases(A.mem b).1 z with z | z
              · exact n3 b ANH (ANG _ z)
              · exact n2a z
          · rcases(A.mem j).1 hj with z | z
            · exact n1a z
            · exact n3 j (ANG _ z) ANH
        · simp only[DX,ANM] at hp
          rcases hp with rfl | rfl | hp
          · rfl
          · rfl
          · exact A.live p hp
        · simp only[QH,ANM] at hp
          rcases hp with rfl | rfl | hp
          · exact .inl ANH
          · obtain⟨A',c',hs⟩:=dQ
            exact .inr (.inr ⟨_,_,_,hs,rfl⟩)
          · exact(A.kp p hp).imp (ANG _) id
        · rcases ANM.1 (show i∈j::Gi l cs from hi) with rfl | hi
          · rw[hb] at z1
            injection z1 with z1;subst z1;rw[hnf] at z2;cases z2
          · obtain⟨y1,b',y2,y3⟩:=A.fx i hi b0 z1 z2
            exact⟨ANG _ (ANG _ y1),b',ANG _ (ANG _ y2),y3⟩
        · have h0:=h1 (b,v) (by simp[QH])
          have h0':=h1 (j, .tuple #[ν j]) (by simp[QH]);obtain⟨z1,z2⟩:=B ν2 L2 (λp hp=>h1 p (ANG _ (ANG _ hp))) h2;refine⟨⟨⟨h0.2,by rw[h0.1];exact(G7 f1).1.symm⟩,z1⟩,λp hp=> ?_⟩;simp only[DX,ANM] at hp;rcases hp with rfl | rfl | hp
          · exact rel h0.1 h2
          · obtain⟨A',c',hs⟩:=dQ
            exact⟨ν j,h0'.1,by rw[hs];rfl⟩
          · exact z2 p hp
      · cases h
    · cases h
   cases c with
   | own j =>
     have h':=h;simp only[JK] at h';split at h'
     · rename_i e' t' xs hb
       exact own rfl hb rfl h'
     · rename_i e' t' xs hb
       exact own rfl hb rfl h'
     · cases h'
   | Bo =>
     simp only[JK] at h;split at h
     · rename_i ys hys
       obtain⟨A,B⟩:=Uw I (rq:=rq) (b+1) hys hr.2 f3 hk (λk hk=>hm k (ANK _ hk));rw[hrg];refine⟨⟨?_, ?_,λi=> ?_,λn1 n2 n3=> ?_,λp hp=> ?_,λp hp=> ?_,λi hi b0 z1 z2=> ?_⟩,λν2 L2 h1 h2=> ?_⟩
       · simp only[QH,DX,ANx,A.names]
       · simp only[QH,AOg,<-A.jF]
       · simp only[QH,ANx,ANM,Gi,A.mem]
         constructor
         · rintro(z | z | z)
           · exact .inr (.inl z)
           · exact .inl z
           · exact .inr (.inr z)
         · rintro(z | (z | z))
           · exact .inr (.inl z)
           · exact .inl z
           · exact .inr (.inr z)
       · obtain⟨n2a,n2b⟩:=AOQ.1 n2
         have n1:(Gi l cs).Nodup:=n1;have A':=A.nodup n1 n2b λi hi hi2=>n3 i (ANG _ hi) hi2
         simp only[QH,ANx];refine AOQ.2 ⟨λhj=> ?_,A'⟩;rcases(A.mem b).1 hj with z | z
         · exact n3 b ANH z
         · exact n2a z
       · simp only[DX,ANM] at hp
         rcases hp with rfl | hp
         · rfl
         · exact A.live p hp
       · simp only[QH,ANM] at hp
         rcases hp with rfl | hp
         · exact .inl ANH
         · exact(A.kp p hp).imp (ANG _) id
       · obtain⟨y1,b',y2,y3⟩:=A.fx i hi b0 z1 z2
         exact⟨ANG _ y1,b',ANG _ y2,y3⟩
       · have h0:=h1 (b,v) (by simp[QH])
         obtain⟨z1,z2⟩:=B ν2 L2 (λp hp=>h1 p (ANG _ hp)) h2;refine⟨⟨⟨h0.2,by rw[h0.1];exact(G7 f1).1.symm⟩,z1⟩,λp hp=> ?_⟩;simp only[DX,ANM] at hp;rcases hp with rfl | hp
         · exact rel h0.1 h2
         · exact z2 p hp
     · cases h
   | _=>simp[JK] at h
theorem Aft.cons {N:List (Nat × Value)} {E:List (Nat × AB)} {bl ids news:List Nat} {j:Nat} {b:AB} (A:Aft hp ν N E bl ids news) (hb:EI b=false) (hf : ∀b0,hp[j]? =some b0->P0 b0=true->P0 b=true):Aft hp ν ((j,ν j)::N) ((j,b)::E) ((C4 (ν j)).toList++bl) (j::ids) news:=by
 refine⟨by simp[A.names],by simp[<-A.jF],λi=>by simp[A.mem,or_assoc],λn1 n2 n3=> ?_,λp hp=> ?_,λp hp=> ?_,λi hi b0 z1 z2=> ?_⟩
 · obtain⟨n1a,n1b⟩:=AOQ.1 n1
   rw[ANx];refine AOQ.2 ⟨λhj=> ?_,A.nodup n1b n2 λi hi hi2=>n3 i hi (ANG _ hi2)⟩;rcases(A.mem j).1 hj with z | z
   · exact n1a z
   · exact n3 j z ANH
 · rcases ANM.1 hp with rfl | hp
   · exact hb
   · exact A.live p hp
 · rcases ANM.1 hp with rfl | hp
   · exact .inr (.inl rfl)
   · exact A.kp p hp
 · rcases ANM.1 hi with rfl | hi
   · exact⟨ANH,b,ANH,hf b0 z1 z2⟩
   · obtain⟨y1,b',y2,y3⟩:=A.fx i hi b0 z1 z2
     exact⟨ANG _ y1,b',ANG _ y2,y3⟩
theorem Aft.app {N N':List (Nat × Value)} {E E':List (Nat × AB)} {bl fJ ids ids' news news':List Nat} (A:Aft hp ν N E bl ids news) (B:Aft hp ν N' E' fJ ids' news'):Aft hp ν (N++N') (E++E') (bl++fJ) (ids++ids') (news++news'):=by
 refine⟨by simp[A.names,B.names],by simp[<-A.jF,<-B.jF],λi=> ?_,λn1 n2 n3=> ?_,λp hp=> ?_,λp hp=> ?_,λi hi b0 z1 z2=> ?_⟩
 · rw[AOe,ANp,A.mem,B.mem,ANp,ANp]
   constructor
   · rintro((z | z) | (z | z))
     · exact .inl (.inl z)
     · exact .inr (.inl z)
     · exact .inl (.inr z)
     · exact .inr (.inr z)
   · rintro((z | z) | (z | z))
     · exact .inl (.inl z)
     · exact .inr (.inl z)
     · exact .inl (.inr z)
     · exact .inr (.inr z)
 · obtain⟨a1,a2,a3⟩:=APn.1 n1
   obtain⟨b1,b2,b3⟩:=APn.1 n2;rw[AOe];refine APn.2 ⟨A.nodup a1 b1 λi hi hi2=>n3 i (ANP _ hi) (ANP _ hi2),B.nodup a2 b2 λi hi hi2=>n3 i (ANK _ hi) (ANK _ hi2),λi hi j hj=> ?_⟩;rintro rfl;rcases(A.mem i).1 hi with z | z<;>rcases(B.mem i).1 hj with z' | z'
   · exact a3 i z i z' rfl
   · exact n3 i (ANK _ z') (ANP _ z)
   · exact n3 i (ANP _ z) (ANK _ z')
   · exact b3 i z i z' rfl
 · exact(ANp.1 hp).elim (A.live p) (B.live p)
 · rcases ANp.1 hp with hp | hp
   · exact(A.kp p hp).imp (ANP _) id
   · exact(B.kp p hp).imp (ANK _) id
 · rcases ANp.1 hi with hi | hi
   · obtain⟨y1,b',y2,y3⟩:=A.fx i hi b0 z1 z2
     exact⟨ANP _ y1,b',ANP _ y2,y3⟩
   · obtain⟨y1,b',y2,y3⟩:=B.fx i hi b0 z1 z2
     exact⟨ANK _ y1,b',ANK _ y2,y3⟩
def QB (w:World) (v:Value):List Value:=match v with
 | .pointer (some ad)=>match w.heap[ad.block]? with
   | some (.cells cs _ _)=>cs.toList
   | _=> []
 | _=> []
def uW (ν:Nat->Value) (hp:List AB) (tm:List AV) (w':World):List PK->List Operand->Nat->List (Nat × Value)
 | .ty _::ts,_::os,b=>uW ν hp tm w' ts os b
 | .st _ fs::ts,o::os,b=>match AQ tm o with
   | .val [.ptr j 0]=>match hp[j]? with
     | some (.cells _ _ cs)=>(j,ν j)::(QH ν fs cs (QB w' (ν j)) b++uW ν hp tm w' ts os (b+Em fs))
     | _=> []
   | _=> []
 | .KR _ _::ts,o::os,b=>match AQ tm o with
   | .val [.own j]=>(j,ν j)::uW ν hp tm w' ts os b
   | _=> []
 | _,_,_=> []
theorem fI (b m n:Nat):(List.range (m+n)).map (b+ ·)=(List.range m).map (b+ ·)++(List.range n).map (b+m+ ·):=by
 rw[List.range_add,AOe,AQo]
 congr 1
 exact AOE λi _=>by simp only[Function.comp];omega
theorem ZH (I:Inv U0 ν tm hp w0 a w) {U:Nat->Prop} {rq:Lq} : ∀ {ps:List PK} {os:List Operand} {x:PT ps} {y:ET ps} {bl:List Nat} (b:Nat),CJ hp tm ps os=some x->rP U w w' ps y (os.map a.eval) bl->(∀k∈bl,KQ w0 rq k) ->
 Aft hp ν (uW ν hp tm w' ps os b) (En hp tm rq ps y os b) bl (Dq hp tm ps os) ((List.range (JR ps)).map (b+ ·)) /\
 ∀(ν2:Nat->Value) (L2:Nat->Prop),(∀p∈uW ν hp tm w' ps os b,ν2 p.1=p.2/\L2 p.1)->Move U w' w' (Un U0 ν2 L2)-> ∀p∈En hp tm rq ps y os b,SN U0 ν2 L2 w0 w' p.1 p.2
 | [],[],x,y,bl,b,h,hr,hm=>by
   obtain⟨_,rfl⟩:=hr;exact⟨⟨rfl,rfl,λi=>by simp[uW,Dq,JR],λ_ _ _=>AQQ,λp hp=>by simp[En] at hp,λp hp=>by simp[uW] at hp,λi hi=>by simp[Dq] at hi⟩,λν2 L2 _ _ p hp=>by simp[En] at hp⟩
 | [],_::_,x,y,bl,b,h,hr,hm=>by simp[CJ] at h
 | .ty _::_,[],x,y,bl,b,h,hr,hm=>by simp[CJ] at h
 | .st _ _::_,[],x,y,bl,b,h,hr,hm=>by simp[CJ] at h
 | .KR _ _::_,[],x,y,bl,b,h,hr,hm=>by simp[CJ] at h
 | .ty t::ts,o::os,x,y,bl,b,h,hr,hm=>by
   simp only[CJ] at h;split at h
   · rename_i cs hc
     split at h
     · rename_i x1 hx1
       split at h
       · rename_i ys hys
         exact ZH I (ps:=ts) (os:=os) (y:=y) b hys hr hm
       · cases h
     · cases h
   · cases h
 | .st e fs::ts,o::os,x,y,bl,b,h,hr,hm=>by
   simp only[CJ] at h;split at h
   · rename_i j hc
     split at h
     · rename_i lq e' cs hb
       split at h
       · rename_i he
         subst he;split at h
         · rename_i x1 hx1
           split at h
           · rename_i ys hys
             obtain⟨g,us,us',b1,b2,e1,e2,e3,f1,f2,rfl,f3⟩:=hr;obtain⟨hj,g0,hν,hv⟩:=val_one (hc▸I.AQ o);have hv:a.eval o= .pointer (some ⟨g0,0,none⟩):=hv;have e1:a.eval o= .pointer (some ⟨g,0,none⟩):=e1;rw[hv] at e1;injection e1 with e1;injection e1 with e1;injection e1 with e1;subst e1;obtain⟨g',vs,h1,h2,h3,h4,h5⟩:=I.cells hb;rw[hν] at h1;injection h1 with h1;injection h1 with h1;injection h1 with h1;subst h1;rw[e2] at h3;injection h3 with h3;injection h3 with h3;have h3:us=vs:=(by simpa using congrArg Array.toList h3);subst h3;have hus:QB w' (ν j)=us':=(by unfold QB;rw[hν];simp[e3]);obtain⟨A1,B1⟩:=Uw I (rq:=rq) b hx1 h4 f1 f2 (λk hk=>hm k (ANG _ (ANP _ hk)));obtain⟨A2,B2⟩:=ZH I (rq:=rq) (ps:=ts) (os:=os) (y:=y.2) (b+Em fs) hys f3 (λk hk=>hm k (ANG _ (ANK _ hk)));have hid:Dq hp tm (.st e' fs::ts) (o::os)=j::(Gi fs cs++Dq hp tm ts os):=(by simp only[Dq,hc,hb]);have hnu:uW ν hp tm w' (.st e' fs::ts) (o::os) b=(j,ν j)::(QH ν fs cs us' b++uW ν hp tm w' ts os (b+Em fs)):=(by simp only[uW,hc,hb,hus]);have haf:En hp tm rq (.st e' fs::ts) y (o::os) b=(j, .cells lq e' (DX hp rq fs y.1 cs b).1)::((DX hp rq fs y.1 cs b).2++En hp tm rq ts y.2 os (b+Em fs)):=(by simp only[En,hc,hb]);have hgr:(List.range (JR (.st e' fs::ts))).map (b+ ·)=(List.range (Em fs)).map (b+ ·)++(List.range (JR ts)).map (b+Em fs+ ·):=fI b _ _;rw[hid,hnu,haf,hgr];have A:=(A1.app A2).cons (j:=j) (b:= .cells lq e' (DX hp rq fs y.1 cs b).1) rfl (λb0 z1 z2=>by rw[hb] at z1;injection z1 with z1;subst z1;cases lq<;>exact z2);refine⟨by rw[hν] at A ⊢;exact A,λν2 L2 q1 q2 p hp=> ?_⟩;have q0:=q1 (j,ν j) ANH;obtain⟨z1,z2⟩:=B1 ν2 L2 (λp hp=>q1 p (ANG _ (ANP _ hp))) q2;rcases ANM.1 hp with rfl | hp
             · exact⟨g0,us',q0.1.trans hν,h2,e3,z1⟩
             · rcases ANp.1 hp with hp | hp
               · exact z2 p hp
               · exact B2 ν2 L2 (λp hp=>q1 p (ANG _ (ANK _ hp))) q2 p hp
           · cases h
         · cases h
       · cases h
     · cases h
   · cases h
 | .KR e t::ts,o::os,x,y,bl,b,h,hr,hm=>by
   simp only[CJ] at h;split at h
   · rename_i j hc
     split at h
     · rename_i lq e' t' xs hb
       split at h
       · rename_i q
         obtain⟨rfl,rfl⟩:=q;split at h
         · rename_i ys hys
           obtain⟨inner,b2,f1,f2,rfl,f3⟩:=hr;obtain⟨hj,hv⟩:=val_one (hc▸I.AQ o);obtain⟨⟨zw,y1,y2⟩,y3⟩:=I.mem j _ hb rfl;have hv:a.eval o=ν j:=hv.trans (G7 y1).1;obtain⟨A2,B2⟩:=ZH I (rq:=rq) (ps:=ts) (os:=os) (y:=y.2) b hys f3 (λk hk=>hm k (ANK _ hk));have hid:Dq hp tm (.KR e' t'::ts) (o::os)=j::Dq hp tm ts os:=(by simp only[Dq,hc]);have hnu:uW ν hp tm w' (.KR e' t'::ts) (o::os) b=(j,ν j)::uW ν hp tm w' ts os b:=(by simp only[uW,hc]);have haf:En hp tm rq (.KR e' t'::ts) y (o::os) b=(j, .row lq e' t' y.1)::En hp tm rq ts y.2 os b:=(by simp only[En,hc,hb]);rw[hid,hnu,haf];have A:=A2.cons (j:=j) (b:= .row lq e' t' y.1) rfl (λb0 z1 z2=>by rw[hb] at z1;injection z1 with z1;subst z1;cases lq<;>exact z2);refine⟨by rw[hv];exact A,λν2 L2 q1 q2 p hp=> ?_⟩;have q0:=q1 (j,ν j) ANH;rcases ANM.1 hp with rfl | hp
           · refine⟨⟨inner, ?_,f2.Gh λ_ _ z=>z.move q2⟩,λk hk=>y3 k ((congrArg C4 (show ν j=ν2 j from q0.1.symm)).trans hk)⟩
             have f1:Ow w' 0 e' (kd t').sz (a.eval o) (List.length y.1) inner:=f1;rw[hv] at f1;rw[q0.1];exact Z8 f1 λk hk=>UZ (y3 k hk)
           · exact B2 ν2 L2 (λp hp=>q1 p (ANG _ hp)) q2 p hp
         · cases h
       · cases h
     · cases h
   · cases h
theorem Rn {hp B0:List AB} {rq:Lq} : ∀ {fs:List FK} {cs:List AC} {x:FT fs},JK hp fs cs=some x->(∀j∈Gi fs cs,hp[j]? =B0[j]?)->JK B0 fs cs=some x/\(∀y b,DX B0 rq fs y cs b=DX hp rq fs y cs b)/\Lp B0 fs cs=Lp hp fs cs
 | [],[],x,h,hs=>⟨h,λ_ _=>rfl,rfl⟩
 | [],_::_,x,h,hs=>by simp[JK] at h
 | .ty t::l,cs,x,h,hs=>by
   simp only[JK] at h;split at h
   · rename_i hn
     split at h
     · rename_i y cs' hy
       split at h
       · rename_i ys hys
         injection h with h;subst h;obtain⟨rfl,_⟩:=Jp hy;obtain⟨q1,q2,q3⟩:=Rn (rq:=rq) hys hs;refine⟨?_,λy b=> ?_,q3⟩
         · simp only[JK,hn,if_true,<-WW (hp:=hp) (B0:=B0) hn,hy,q1]
         · simp only[DX,q2]
       · cases h
     · cases h
   · cases h
 | .row kp e t::l,[],x,h,hs=>by cases kp<;>simp[JK] at h
 | .row kp e t::l,c::cs,x,h,hs=>by
   have own : ∀ {j:Nat} {lq:Lq} {e':TypeId} {t':Ty} {xs:List (T t')},c= .own j->hp[j]? =some (.row lq e' t' xs)->(if h:e'=e/\t'=t then(match JK hp l cs with
    | some y=>h.2▸some (xs,y)
    | none=>none) else none)=some x->(if h:e'=e/\t'=t then(match JK B0 l cs with
    | some y=>h.2▸some (xs,y)
    | none=>none) else none)=some x/\(∀y b,DX B0 rq l y cs b=DX hp rq l y cs b)/\Lp B0 l cs=Lp hp l cs:=by
    clear h;intro j lq e' t' xs hc hb h;subst hc;split at h
    · rename_i q
      obtain⟨rfl,rfl⟩:=q;split at h
      · rename_i ys hys
        obtain⟨q1,q2,q3⟩:=Rn (rq:=rq) hys λi hi=>hs i (ANG _ hi)
        rw[dif_pos ⟨rfl,rfl⟩,q1];exact⟨h,q2,q3⟩
      · cases h
    · cases h
   cases c with
   | own j =>
     have hj:=hs j ANH;cases kp with
     | true =>
       simp only[JK,<-hj] at h ⊢;split at h
       · rename_i lq e' t' xs hb
         obtain⟨q1,q2,q3⟩:=own rfl hb h;refine⟨q1,λy b=> ?_, ?_⟩
         · simp only[DX,<-hj,q2]
         · simp only[Lp,<-hj,q3]
       · cases h
     | false =>
       simp only[JK,<-hj] at h ⊢;split at h
       · rename_i e' t' xs hb
         obtain⟨q1,q2,q3⟩:=own rfl hb h;refine⟨q1,λy b=> ?_, ?_⟩
         · simp only[DX,q2]
         · simp only[Lp,<-hj,q3]
       · rename_i e' t' xs hb
         obtain⟨q1,q2,q3⟩:=own rfl hb h;refine⟨q1,λy b=> ?_, ?_⟩
         · simp only[DX,q2]
         · simp only[Lp,<-hj,q3]
       · cases h
   | Bo =>
     cases kp with
     | true=>simp[JK] at h
     | false =>
       simp only[JK] at h;split at h
       · rename_i ys hys
         obtain⟨q1,q2,q3⟩:=Rn (rq:=rq) hys hs;refine⟨by simp only[JK,q1];exact h,λy b=> ?_,by simp only[Lp,q3]⟩;simp only[DX,q2]
       · cases h
   | _=>cases kp<;>simp[JK] at h
theorem J4 {hp B0:List AB} {tm El:List AV} {rq:Lq} : ∀ {ps:List PK} {os:List Operand} {x:PT ps},CJ hp tm ps os=some x->(∀o∈os,AQ tm o=AQ El o)->(∀o∈os,∀t,Ee hp t (cellsOf (AQ tm o))=Ee B0 t (cellsOf (AQ tm o)))->(∀j∈Dq hp tm ps os,hp[j]? =B0[j]?) ->
 CJ B0 El ps os=some x/\Dq B0 El ps os=Dq hp tm ps os/\(∀y b,En B0 El rq ps y os b=En hp tm rq ps y os b)/\Ge B0 El ps os=Ge hp tm ps os
 | [],[],x,h,ht,h1,h2=>⟨h,rfl,λ_ _=>rfl,rfl⟩
 | [],_::_,x,h,ht,h1,h2=>by simp[CJ] at h
 | .ty _::_,[],x,h,ht,h1,h2=>by simp[CJ] at h
 | .st _ _::_,[],x,h,ht,h1,h2=>by simp[CJ] at h
 | .KR _ _::_,[],x,h,ht,h1,h2=>by simp[CJ] at h
 | .ty t::ts,o::os,x,h,ht,h1,h2=>by
   simp only[CJ] at h;have e0:=ht o ANH;split at h
   · rename_i cs hc
     split at h
     · rename_i x1 hx1
       split at h
       · rename_i ys hys
         have e1:=h1 o ANH t;rw[hc] at e1;have e1:Ee hp t cs=Ee B0 t cs:=e1;obtain⟨q1,q2,q3,q4⟩:=J4 (rq:=rq) (El:=El) hys (λo ho=>ht o (ANG _ ho)) (λo ho=>h1 o (ANG _ ho)) h2;refine⟨?_,q2,λy b=>q3 y b,q4⟩;simp only[CJ,<-e0,hc,<-e1,hx1,q1];exact h
       · cases h
     · cases h
   · cases h
 | .st e fs::ts,o::os,x,h,ht,h1,h2=>by
   simp only[CJ] at h;have e0:=ht o ANH;split at h
   · rename_i j hc
     split at h
     · rename_i lq e' cs hb
       split at h
       · rename_i he
         subst he;split at h
         · rename_i x1 hx1
           split at h
           · rename_i ys hys
             have hid:Dq hp tm (.st e' fs::ts) (o::os)=j::(Gi fs cs++Dq hp tm ts os):=(by simp only[Dq,hc,hb]);rw[hid] at h2 ⊢;have hj:=h2 j ANH;have hb':B0[j]? =some (.cells lq e' cs):=hj▸hb;obtain⟨z1,z2,z3⟩:=Rn (rq:=rq) (B0:=B0) hx1 λi hi=>h2 i (ANG _ (ANP _ hi))
             obtain⟨q1,q2,q3,q4⟩:=J4 (rq:=rq) (El:=El) hys (λo ho=>ht o (ANG _ ho)) (λo ho=>h1 o (ANG _ ho)) λi hi=>h2 i (ANG _ (ANK _ hi))
             refine⟨?_, ?_,λy b=> ?_, ?_⟩
             · simp only[CJ,<-e0,hc,hb',z1,q1,if_true]
               exact h
             · simp only[Dq,<-e0,hc,hb',q2]
             · simp only[En,<-e0,hc,hb',hb,q3,z2]
             · cases lq<;>simp only[Ge,<-e0,hc,hb',hb,q4,z3]
           · cases h
         · cases h
       · cases h
     · cases h
   · cases h
 | .KR e t::ts,o::os,x,h,ht,h1,h2=>by
   simp only[CJ] at h;have e0:=ht o ANH;split at h
   · rename_i j hc
     split at h
     · rename_i lq e' t' xs hb
       split at h
       · rename_i q
         obtain⟨rfl,rfl⟩:=q;split at h
         · rename_i ys hys
           have hid:Dq hp tm (.KR e' t'::ts) (o::os)=j::Dq hp tm ts os:=(by simp only[Dq,hc]);rw[hid] at h2 ⊢;have hj:=h2 j ANH;have hb':B0[j]? =some (.row lq e' t' xs):=hj▸hb;obtain⟨q1,q2,q3,q4⟩:=J4 (rq:=rq) (El:=El) hys (λo ho=>ht o (ANG _ ho)) (λo ho=>h1 o (ANG _ ho)) λi hi=>h2 i (ANG _ hi)
           refine⟨?_, ?_,λy b=> ?_, ?_⟩
           · simp only[CJ,<-e0,hc,hb',q1]
             simpa using h
           · simp only[Dq,<-e0,hc,q2]
           · simp only[En,<-e0,hc,hb',hb,q3]
           · cases lq<;>simp only[Ge,<-e0,hc,hb',hb,q4]
         · cases h
       · cases h
     · cases h
   · cases h
theorem Ux (I:Inv U0 ν tm hp w0 a w) : ∀ {fs:List FK} {cs:List AC},Lp hp fs cs=true-> ∀j∈Gi fs cs,∀k,C4 (ν j)=some k->w0.heap.size<=k
 | [],cs,h,j,hj,k,hk=>by simp[Gi] at hj
 | .ty t::l,cs,h,j,hj,k,hk=>Ux I (fs:=l) h j hj k hk
 | .row kp e t::l,[],h,j,hj,k,hk=>by simp[Gi] at hj
 | .row kp e t::l,c::cs,h,j,hj,k,hk=>by
   cases c with
   | own i =>
     simp only[Lp,ANQ] at h;rcases ANM.1 hj with rfl | hj
     · have h1:=h.1
       split at h1
       · rename_i e' t' xs hb
         exact I.Rc hb hk
       · cases h1
     · exact Ux I h.2 j hj k hk
   | _=>exact Ux I (fs:=l) (cs:=cs) h j hj k hk
theorem Uy (I:Inv U0 ν tm hp w0 a w) : ∀ {ps:List PK} {os:List Operand},Ge hp tm ps os=true-> ∀j∈Dq hp tm ps os,∀k,C4 (ν j)=some k->w0.heap.size<=k
 | [],os,h,j,hj,k,hk=>by simp[Dq] at hj
 | .ty _::_,[],h,j,hj,k,hk=>by simp[Dq] at hj
 | .st _ _::_,[],h,j,hj,k,hk=>by simp[Dq] at hj
 | .KR _ _::_,[],h,j,hj,k,hk=>by simp[Dq] at hj
 | .ty t::ts,o::os,h,j,hj,k,hk=>Uy I (ps:=ts) (os:=os) h j hj k hk
 | .st e fs::ts,o::os,h,j,hj,k,hk=>by
   simp only[Ge,ANQ] at h;obtain⟨h1,h2⟩:=h;simp only[Dq] at hj;split at h1
   · rename_i i hc
     rw[hc] at hj;simp only at hj;split at h1
     · rename_i e' cs hb
       rw[hb] at hj;simp only at hj;rcases ANM.1 hj with rfl | hj
       · obtain⟨g,vs,z1,z2,_⟩:=I.cells hb
         rw[z1] at hk;injection hk with hk;exact hk▸z2
       · rcases ANp.1 hj with hj | hj
         · exact Ux I h1 j hj k hk
         · exact Uy I h2 j hj k hk
     · cases h1
   · cases h1
 | .KR e t::ts,o::os,h,j,hj,k,hk=>by
   simp only[Ge,ANQ] at h;obtain⟨h1,h2⟩:=h;simp only[Dq] at hj;split at h1
   · rename_i i hc
     rw[hc] at hj;simp only at hj;split at h1
     · rename_i e' t' xs hb
       rcases ANM.1 hj with rfl | hj
       · exact I.Rc hb hk
       · exact Uy I h2 j hj k hk
     · cases h1
   · cases h1
theorem jG : ∀(ps:List PK) (os:List Operand),Mo hp (Y7 hp tm ps os)
 | [],_=>λp h=>by simp[Y7] at h
 | .ty _::ts,o::os=>(KS _).app (jG ts os)
 | .st _ _::ts,_::os=>jG ts os
 | .KR _ _::ts,_::os=>jG ts os
 | .ty _::_,[]=>λp h=>by simp[Y7] at h
 | .st _ _::_,[]=>λp h=>by simp[Y7] at h
 | .KR _ _::_,[]=>λp h=>by simp[Y7] at h
theorem nO {l l':List (Nat × AB)} {j:Nat} :JF (l++l') j=(JF l j || JF l' j):=by
 induction l with
 | nil=>simp[JF]
 | cons p l ih=>simp[JF,ih,Bool.or_assoc]
theorem Uz {l:List (Nat × AB)} (hl:Mo hp l) : ∀ {ps:List PK} {os:List Operand},(∀j,JF (Y7 hp tm ps os) j=true->JF l j=true)->uV (DB l hp) tm ps os
 | [],os,h=>by cases os<;>trivial
 | .ty _::_,[],h=>trivial
 | .st _ _::_,[],h=>trivial
 | .KR _ _::_,[],h=>trivial
 | .ty t::ts,o::os,h=>by
   refine⟨λj e t xs hj hb=> ?_,Uz hl λj hj=>h j (by simp[Y7,nO,hj])⟩;rcases FR hl j with q | ⟨_,_,_,_,q,_⟩
   · rw[q] at hb
     obtain⟨_,_,_,z⟩:=iX hl (h j (by simp[Y7,nO,Mp hj hb]));rw[q,hb] at z;cases z
   · rw[q] at hb;cases hb
 | .st _ _::ts,_::os,h=>Uz hl (ps:=ts) (os:=os) h
 | .KR _ _::ts,_::os,h=>Uz hl (ps:=ts) (os:=os) h
theorem uX {hp:List AB} : ∀(l l':List (Nat × AB)),DB (l++l') hp=DB l (DB l' hp)
 | [],_=>rfl
 | (j,b)::l,l'=>by
   show(DB (l++l') hp).set j b=(DB l (DB l' hp)).set j b;rw[uX l l']
theorem uY {hp:List AB} : ∀(l:List (Nat × AB)),(DB l hp).length=hp.length
 | []=>rfl
 | (j,b)::l=>by simp[DB,uY l]
theorem ZD {hp:List AB} {i:Nat} : ∀ {l:List (Nat × AB)},i ∉ l.map (·.1)->(DB l hp)[i]? =hp[i]?
 | [],_=>rfl
 | (j,b)::l,h=>by
   simp only[ANx,ANM,not_or] at h;simp only[DB,ANf (AQN h.1)];exact ZD h.2
theorem rQ {hp:List AB} {i:Nat} {b:AB} (hi:i<hp.length) : ∀ {l:List (Nat × AB)},(l.map (·.1)).Nodup->(i,b)∈l->(DB l hp)[i]? =some b
 | (j,c)::l,hn,h=>by
   obtain⟨h1,h2⟩:=AOQ.1 hn;rcases ANM.1 h with e | h
   · injection e with e1 e2
     subst e1 e2;simp[DB,uY,hi]
   · have:j≠i:=λe=>h1 (e▸AN1.2 ⟨_,h,rfl⟩)
     simp only[DB,ANf this];exact rQ hi h2 h
def GC (N:List (Nat × Value)) (d:Nat->Value) (i:Nat):Value:=match N with
 | []=>d i
 | (j,v)::l=>if i=j then v else GC l d i
theorem fN {d:Nat->Value} {i:Nat} : ∀ {N:List (Nat × Value)},i ∉ N.map (·.1)->GC N d i=d i
 | [],_=>rfl
 | (j,v)::l,h=>by
   simp only[ANx,ANM,not_or] at h;simp only[GC,if_neg h.1];exact fN h.2
theorem Z9 {d:Nat->Value} {i:Nat} {v:Value} : ∀ {N:List (Nat × Value)},(N.map (·.1)).Nodup->(i,v)∈N->GC N d i=v
 | (j,c)::l,hn,h=>by
   obtain⟨h1,h2⟩:=AOQ.1 hn;rcases ANM.1 h with e | h
   · injection e with e1 e2
     subst e1 e2;simp[GC]
   · have:i≠j:=λe=>h1 (e▸AN1.2 ⟨_,h,rfl⟩)
     simp only[GC,if_neg this];exact Z9 h2 h
theorem Tm {α:Type} {f:α->List Nat} : ∀ {N:List α},(N.flatMap f).Nodup-> ∀ {p q:α} {k:Nat},p∈N->q∈N->k∈f p->k∈f q->p=q
 | a::N,hn,p,q,k,hp,hq,h1,h2=>by
   rw[AOg] at hn;obtain⟨n1,n2,n3⟩:=APn.1 hn;rcases ANM.1 hp with e1 | g1<;>rcases ANM.1 hq with e2 | g2
   · rw[e1,e2]
   · subst e1;exact absurd rfl (n3 k h1 k (AOq.2 ⟨q,g2,h2⟩))
   · subst e2;exact absurd rfl (n3 k h2 k (AOq.2 ⟨p,g1,h1⟩))
   · exact Tm n2 g1 g2 h1 h2
theorem fP {U U':Nat->Prop} (m:Move U w' w' U') : ∀ {rs:List Ty} {x:TT rs} {us:List Value},ia U w' rs x us->ia U' w' rs x us
 | [],_,_,h=>h
 | t::ts,x,u::us,⟨⟨cs,h1,h2⟩,h3⟩=>⟨⟨cs,h1,h2.move m⟩,fP m h3⟩
 | _::_,_,[],h=>h.elim
theorem nP {rq:Lq} : ∀ {fs:List FK} {cs:List AC} {x y:FT fs} {b:Nat},yu fs=true->JK hp fs cs=some x->(DX hp rq fs y cs b).1=cs
 | [],[],x,y,b,_,h=>rfl
 | [],_::_,x,y,b,_,h=>by simp[JK] at h
 | .ty t::l,cs,x,y,b,hk,h=>by simp[yu] at hk
 | .row false e t::l,cs,x,y,b,hk,h=>by simp[yu] at hk
 | .row true e t::l,[],x,y,b,hk,h=>by simp[JK] at h
 | .row true e t::l,c::cs,x,y,b,hk,h=>by
   cases c with
   | own j =>
     simp only[JK] at h;split at h
     · split at h
       · split at h
         · rename_i ys hys
           simp only[DX];rw[nP (fs:=l) (y:=y.2) hk hys]
         · cases h
       · cases h
     · cases h
   | _=>simp[JK] at h
theorem NK {rq:Lq} : ∀ {ps:List PK} {os:List Operand} {x:PT ps} {y:ET ps} {b:Nat},CJ hp tm ps os=some x-> ∀j∈Dd tm ps os,(∃q e cs,(j,AB.cells q e cs)∈En hp tm rq ps y os b/\hp[j]? =some (.cells q e cs))/\ ∃o∈os,∃n,AQ tm o= .val [.ptr j n]
 | [],[],x,y,b,h,j,hj=>by simp[Dd] at hj
 | [],_::_,x,y,b,h,j,hj=>by simp[CJ] at h
 | .ty t::ts,[],x,y,b,h,j,hj=>by simp[CJ] at h
 | .st e fs::ts,[],x,y,b,h,j,hj=>by simp[CJ] at h
 | .KR e t::ts,[],x,y,b,h,j,hj=>by simp[CJ] at h
 | .ty t::ts,o::os,x,y,b,h,j,hj=>by
   simp only[CJ] at h;split at h
   · split at h
     · split at h
       · rename_i xs hxs
         obtain⟨q1,o',q2,q3⟩:=NK (rq:=rq) (ps:=ts) (y:=y) (b:=b) hxs j hj;exact⟨q1,o',ANG _ q2,q3⟩
       · cases h
     · cases h
   · cases h
 | .KR e t::ts,o::os,x,y,b,h,j,hj=>by
   simp only[CJ] at h;split at h
   · rename_i i hc
     split at h
     · rename_i lq e' t' xs hb
       split at h
       · rename_i q
         obtain⟨rfl,rfl⟩:=q;split at h
         · rename_i ys hys
           obtain⟨⟨lq0,e0,cs0,q1,q4⟩,o',q2,q3⟩:=NK (rq:=rq) (ps:=ts) (y:=y.2) (b:=b) hys j hj;refine⟨⟨lq0,e0,cs0, ?_,q4⟩,o',ANG _ q2,q3⟩;simp only[En,hc,hb];exact ANG _ q1
         · cases h
       · cases h
     · cases h
   · cases h
 | .st e fs::ts,o::os,x,y,b,h,j,hj=>by
   simp only[CJ] at h;split at h
   · rename_i i hc
     split at h
     · rename_i lq e' cs hb
       split at h
       · rename_i he
         subst he;split at h
         · rename_i xf hxf
           split at h
           · rename_i xs hxs
             have haf:En hp tm rq (.st e' fs::ts) y (o::os) b=(i, .cells lq e' (DX hp rq fs y.1 cs b).1)::((DX hp rq fs y.1 cs b).2++En hp tm rq ts y.2 os (b+Em fs)):=(by simp only[En,hc,hb]);have rest:j∈Dd tm ts os->(∃q e cs,(j,AB.cells q e cs)∈En hp tm rq (.st e' fs::ts) y (o::os) b/\hp[j]? =some (.cells q e cs))/\ ∃o'∈o::os,∃n,AQ tm o'= .val [.ptr j n]:=λhj=>by
              obtain⟨⟨lq0,e0,cs0,q1,q4⟩,o',q2,q3⟩:=NK (rq:=rq) (ps:=ts) (y:=y.2) (b:=b+Em fs) hxs j hj;exact⟨⟨lq0,e0,cs0,by rw[haf];exact ANG _ (ANK _ q1),q4⟩,o',ANG _ q2,q3⟩
             simp only[Dd,hc] at hj;split at hj
             · rename_i hk hi
               injection hi with hi;injection hi with hi _;injection hi with hi _;subst hi;rcases ANM.1 hj with rfl | hj
               · refine⟨⟨lq,e',cs, ?_,hb⟩,o,ANH,0,hc⟩
                 rw[haf,nP hk hxf];exact ANH
               · exact rest hj
             · exact rest hj
           · cases h
         · cases h
       · cases h
     · cases h
   · cases h
theorem P6 {ks:List Nat} : ∀ {l:List (Nat × AB)} {q:Nat},q∈l.map (·.1)->q ∉ ks->q∈(without ks l).map (·.1)
 | p::l,q,h,hk=>by
   simp only[without];rcases ANM.1 h with rfl | h
   · rw[if_neg (by simpa using hk)]
     exact ANH
   · split
     · exact P6 h hk
     · exact ANG _ (P6 h hk)
theorem N8 {El:List AV} : ∀ {ps:List PK} {os:List Operand},(∀x∈os,AQ tm x=AQ El x)->Dd El ps os=Dd tm ps os
 | [],[],_=>rfl
 | [],_::_,_=>rfl
 | .ty _::_,[],_=>rfl
 | .st _ _::_,[],_=>rfl
 | .KR _ _::_,[],_=>rfl
 | .ty _::ts,o::os,h=>N8 (ps:=ts) λx hx=>h x (ANG _ hx)
 | .KR _ _::ts,o::os,h=>N8 (ps:=ts) λx hx=>h x (ANG _ hx)
 | .st _ fs::ts,o::os,h=>by
   simp only[Dd,<-h o ANH,N8 (ps:=ts) λx hx=>h x (ANG _ hx)]
theorem jH : ∀ {l:List (Nat × AB)} {p:Nat × AB},p∈l->0<iL l p.1
 | q::l,p,h=>by
   simp only[iL];split
   · omega
   · rename_i hne
     rcases ANM.1 h with rfl | h
     · exact absurd rfl hne
     · exact jH h
theorem uZ : ∀ {l:List (Nat × AB)} {j:Nat} {b b':AB},iL l j=1->(j,b)∈l->(j,b')∈l->b=b'
 | q::l,j,b,b',hc,h,h'=>by
   simp only[iL] at hc;split at hc
   · rename_i hq
     have h0:iL l j=0:=(by omega);rcases ANM.1 h with e | h
     · rcases ANM.1 h' with e' | h'
       · rw[<-e] at e';exact(congrArg Prod.snd e').symm
       · have:=jH h';simp only at this;omega
     · have:=jH h;simp only at this;omega
   · rename_i hq
     have hm : ∀ {c:AB},(j,c)∈q::l->(j,c)∈l:=λ{c} z=>(ANM.1 z).resolve_left λe=>hq (by rw[<-e])
     exact uZ hc (hm h) (hm h')
theorem nQ {ks:List Nat} : ∀ {l:List (Nat × AB)},(∀p∈l,p.1∈ks->hp[p.1]? =some p.2)-> ∀t∈ks,(DB l hp)[t]? =hp[t]?
 | [],_,t,_=>rfl
 | (j,b)::l,h,t,ht=>by
   have ih:=nQ (l:=l) (λp hp=>h p (ANG _ hp)) t ht;simp only[DB];by_cases e:j=t
   · subst e
     have hb:=h (j,b) ANH ht;have hl:j<(DB l hp).length:=by
      rw[hb] at ih;exact(ANN.1 ih).1
     rw[AN2 hl,hb]
   · rw[ANf e,ih]
theorem XW {ks:List Nat} : ∀ {l:List (Nat × AB)},(∀p∈l,p.1∈ks->hp[p.1]? =some p.2)->DB (without ks l) hp=DB l hp
 | [],_=>rfl
 | (j,b)::l,h=>by
   have ih:=XW (l:=l) (λp hp=>h p (ANG _ hp));simp only[without];by_cases hj:ks.contains j=true
   · rw[if_pos hj,ih]
     have hm:j∈ks:=(by simpa using hj);have hk:=nQ (l:=l) (λp hp=>h p (ANG _ hp)) j hm;have hb:=h (j,b) ANH hm;have hb:hp[j]? =some b:=hb;simp only[DB];apply AOP;intro t;by_cases e:j=t
     · subst e
       have hl:j<(DB l hp).length:=by
        rw[hb] at hk;exact(ANN.1 hk).1
       rw[AN2 hl,hk,hb]
     · rw[ANf e]
   · rw[if_neg hj]
     simp only[DB,ih]
theorem e8 {rq:Lq} {ps:List PK} {os:List Operand} {x:PT ps} {y:ET ps} {b:Nat} (h:CJ hp tm ps os=some x) :
 Zm (En hp tm rq ps y os b) (Dd tm ps os)=En hp tm rq ps y os b\/(Zm (En hp tm rq ps y os b) (Dd tm ps os)=without (Dd tm ps os) (En hp tm rq ps y os b)/\ ∀p∈En hp tm rq ps y os b,p.1∈Dd tm ps os->hp[p.1]? =some p.2):=by
 cases hk:Dd tm ps os with
 | nil=>exact .inl rfl
 | cons k ks =>
   simp only[Zm];split
   · rename_i hc
     refine .inr ⟨rfl,λp Lh Lg=> ?_⟩;obtain⟨⟨lq0,e0,cs0,q1,q2⟩,_⟩:=NK (rq:=rq) (y:=y) (b:=b) h p.1 (by rw[hk];exact Lg);have hone:iL (En hp tm rq ps y os b) p.1=1:=by
      have:=ANy.1 hc p.1 Lg;simpa using this
     rw[uZ hone Lh q1];exact q2
   · exact .inl rfl
theorem zx {rq:Lq} {ps:List PK} {os:List Operand} {x:PT ps} {y:ET ps} {b:Nat} (h:CJ hp tm ps os=some x) (GZ:List AB) (hs : ∀j∈Dd tm ps os,GZ[j]? =hp[j]?):DB (Zm (En hp tm rq ps y os b) (Dd tm ps os)) GZ=DB (En hp tm rq ps y os b) GZ:=by
 rcases e8 (rq:=rq) (y:=y) (b:=b) h with e | ⟨e,q⟩
 · rw[e]
 · rw[e]
   exact XW λp Lh Lg=>(hs _ Lg).trans (q p Lh Lg)
theorem AE2 (hS:FP P S k) (I:Inv U0 ν tm hp w0 a w) (hU : ∀q,U0 q->q<w0.heap.size) {c:Call} {g:FuncId} (hg:c.callee= .value (.func g)) (ho:o.op= .call c) {s:Dj} {nm:List (Nat × Nat)} (hs:S g=some (.io s nm)) {x:PT s.ps} {b:Nat} (hx:CJ hp tm s.ps c.args.toList=some x) (hl:mU hp tm s.ps c.args.toList b=true)
 (h:(Tree.dR (s.f k x) λr=>K (qz s.rs r.1) ⟨none,Zm (En hp tm (JQ (Ge hp tm s.ps c.args.toList)) s.ps r.2 c.args.toList b) (Dd tm s.ps c.args.toList)++Y7 hp tm s.ps c.args.toList⟩).run=some r):CX P Θ S k o U0 ν tm hp w0 a w K r:=by
 obtain⟨y,hf,h⟩:=Tree.Rf h;refine⟨_,_,h, ?_⟩;intro hh next Q hn
 obtain⟨hb,hk⟩:=hS g _ hs;unfold Oper.wp;rw[Rm hg ho hb,Oper.upon_enter];simp only[mU,ANQ,ANy,AOc,AOp,decide_eq_false_iff_not,AOU] at hl;obtain⟨⟨l1,l2⟩,l3⟩:=hl;have hnd:=Tl l1;have hfz:=jG (hp:=hp) (tm:=tm) s.ps c.args.toList;obtain⟨ν1,I1⟩:=I.IA hU hfz;have hsame : ∀j∈Dq hp tm s.ps c.args.toList,hp[j]? =(DB (Y7 hp tm s.ps c.args.toList) hp)[j]? :=λj hj=>by
  refine(ZD λhm=> ?_).symm;obtain⟨p,Lh,Lg⟩:=AN1.1 hm;exact l2 p Lh (Lg▸hj)
 have AGQ : ∀i,i<JR s.ps->(DB (Y7 hp tm s.ps c.args.toList) hp)[b+i]? =some .gone:=λi hi=>by
  have h0:=l3 i hi;unfold yw at h0;split at h0
  · rename_i hg0
    rcases FR hfz (b+i) with q | ⟨_,_,_,q,_⟩
    · rw[q,hg0]
    · rw[hg0] at q;cases q
  · cases h0
 obtain⟨c1,c2,c3,c4⟩:=J4 (B0:=DB (Y7 hp tm s.ps c.args.toList) hp) (El:=tm) (rq:=JQ (Ge hp tm s.ps c.args.toList)) hx (λ_ _=>rfl) (λo _ t=>(ZE hfz t _).symm) hsame;have uT:=Uz (tm:=tm) hfz (ps:=s.ps) (os:=c.args.toList) (λ_ z=>z);have hE:N3 o.dst hp ⟨none,Zm (En hp tm (JQ (Ge hp tm s.ps c.args.toList)) s.ps y.2 c.args.toList b) (Dd tm s.ps c.args.toList)++Y7 hp tm s.ps c.args.toList⟩=DB (En (DB (Y7 hp tm s.ps c.args.toList) hp) tm (JQ (Ge hp tm s.ps c.args.toList)) s.ps y.2 c.args.toList b) (DB (Y7 hp tm s.ps c.args.toList) hp):=by
  rw[c3];refine Eq.trans ?_ (zx (rq:=JQ (Ge hp tm s.ps c.args.toList)) (y:=y.2) (b:=b) hx (DB (Y7 hp tm s.ps c.args.toList) hp) λj hj=> ?_)
  · rw[<-uX]
    rfl
  · obtain⟨⟨lq0,e0,cs0,_,q2⟩,_⟩:=NK (rq:= .mine) (y:=y.2) (b:=0) hx j hj
    rcases FR hfz j with q | ⟨_,_,_,q,_⟩
    · exact q
    · rw[q2] at q;injection q with q;cases q
 rw[hE] at hn;rw[<-c4] at hn;clear hE c3;rw[<-c2] at hnd;generalize DB (Y7 hp tm s.ps c.args.toList) hp=Lh at *;generalize hos:c.args.toList=os at *;clear hsame l1 l2 l3 hfz c2 c4 hh hx I;obtain⟨p1,p2⟩:=jE I1 uT c1;have zh : ∀q,Un U0 ν1 (lv Lh) q->q<w.heap.size:=λq hq=>by
  rcases hq with hq | ⟨j,hj,hb⟩
  · exact AOB (hU q hq) I1.fr.size
  · exact(I1.lt hj hb).1
 have zf : ∀q∈iw ν1 (Dq Lh tm s.ps os),Un U0 ν1 (lv Lh) q:=λq hq=>by
  obtain⟨j,hj,hb⟩:=Kl.1 hq;exact .inr ⟨j,p2 j hj,hb⟩
 refine((hk k (ANS _):IOk P g s k) x y hf (Un U0 ν1 (lv Lh)) w _ _ zh p1 (WV I1 hnd p2) zf).mono λe w' hh=> ?_
 obtain⟨v,fJ,rfl,hr,hend,AJV,AE3,nR⟩:=hh;show next (a.put o.dst v) w'
 have AGR : ∀q∈fJ,KQ w0 (JQ (Ge Lh tm s.ps os)) q:=λq hq=>by
  rcases(AE3 q hq).1 with h1 | h1
  · obtain⟨j,hj,hb⟩:=Kl.1 h1
    cases hmp:Ge Lh tm s.ps os with
    | true=>exact Uy I1 hmp j hj q hb
    | false=>exact(I1.lt (p2 j hj) hb).2
  · exact KQ.new (AN6 I1.fr.size h1)
 obtain⟨A,B⟩:=ZH I1 (w':=w') (rq:=JQ (Ge Lh tm s.ps os)) b c1 hend AGR;generalize En Lh tm (JQ (Ge Lh tm s.ps os)) s.ps y.2 os b=E at *;generalize uW ν1 Lh tm w' s.ps os b=N at *;have hnews : ∀i∈(List.range (JR s.ps)).map (b+ ·),Lh[i]? =some .gone:=λi hi=>by
  obtain⟨q,hq,rfl⟩:=AN1.1 hi;exact AGQ q (AOU.1 hq)
 have nB : ∀i∈(List.range (JR s.ps)).map (b+ ·),¬lv Lh i:=λi hi ⟨b',q1,q2⟩=>by
  rw[hnews i hi] at q1;injection q1 with q1;subst q1;cases q2
 have hNn:(N.map (·.1)).Nodup:=A.nodup hnd (by
  unfold List.Nodup;rw[List.pairwise_map];exact List.nodup_range.imp λh e=>h (Nat.add_left_cancel e)) (λi hi hi2=>nB i hi (p2 i hi2))
 have hEn:(E.map (·.1)).Nodup:=A.names▸hNn;have hlt : ∀i∈N.map (·.1),i<Lh.length:=λi hi=>by
  rcases(A.mem i).1 hi with z | z
  · obtain⟨b',q1,_⟩:=p2 i z
    exact(ANN.1 q1).1
  · exact(ANN.1 (hnews i z)).1
 have hν2 : ∀p∈N,GC N ν1 p.1=p.2:=λp hp=>Z9 hNn hp
 have hoff : ∀i,i ∉ N.map (·.1)->GC N ν1 i=ν1 i/\(DB E Lh)[i]? =Lh[i]? :=λi hi=>⟨fN hi,ZD (A.names▸hi)⟩
 have hon : ∀i b',(i,b')∈E->(DB E Lh)[i]? =some b':=λi b' hi=>rQ (hlt i (A.names▸AN1.2 ⟨_,hi,rfl⟩)) hEn hi
 have zg : ∀i∈N.map (·.1),∃b',(i,b')∈E:=λi hi=>by
  obtain⟨p,hp,rfl⟩:=AN1.1 (A.names▸hi:i∈E.map (·.1));exact⟨p.2,hp⟩
 have hL2 : ∀i∈N.map (·.1),lv (DB E Lh) i:=λi hi=>by
  obtain⟨b',hb'⟩:=zg i hi;exact⟨b',hon i b' hb',A.live _ hb'⟩
 have hLo : ∀i,i ∉ N.map (·.1)->(lv (DB E Lh) i↔lv Lh i):=λi hi=>by
  unfold lv;rw[(hoff i hi).2]
 have AE4 : ∀p∈N,∀q,C4 p.2=some q->q∈fJ:=λp hp q hq=>by
  rw[A.jF];exact AOq.2 ⟨p,hp,by rw[hq];simp⟩
 have hun : ∀q,Un U0 (GC N ν1) (lv (DB E Lh)) q->Un U0 ν1 (lv Lh) q\/q∈fJ:=λq hq=>by
  rcases hq with hq | ⟨i,hi,hb⟩
  · exact .inl (.inl hq)
  · by_cases Py:i∈N.map (·.1)
    · obtain⟨p,hp,rfl⟩:=AN1.1 Py
      rw[hν2 p hp] at hb;exact .inr (AE4 p hp q hb)
    · rw[(hoff i Py).1] at hb
      exact .inl (.inr ⟨i,(hLo i Py).1 hi,hb⟩)
 have m2:Move (λq=>Un U0 ν1 (lv Lh) q\/q∈fJ) w' w' (Un U0 (GC N ν1) (lv (DB E Lh))):=⟨ANS _,λ_ _ _=>rfl,λq _ hq=>hun q hq⟩;have m1:Move (Un U0 ν1 (lv Lh)) w w' (Un U0 (GC N ν1) (lv (DB E Lh))):=⟨nR.size,λq hq hnu=>nR.block q hq (λz=>hnu (zf q z)),λq hq hu=>by
  rcases hun q hu with z | z
  · exact z
  · rcases(AE3 q z).1 with z | z
    · exact zf q z
    · omega⟩
 have hKp : ∀i,lv Lh i->lv (DB E Lh) i/\Kp ν1 (GC N ν1) i:=λi hi=>by
  by_cases Py:i∈N.map (·.1)
  · refine⟨hL2 i Py, ?_⟩
    obtain⟨p,hp,rfl⟩:=AN1.1 Py;rcases A.kp p hp with z | z | ⟨A',n',c',z1,z2⟩
    · exact absurd hi (nB _ z)
    · exact .inl ((hν2 p hp).trans z)
    · exact .inr ⟨A',n',c',z1,(hν2 p hp).trans z2⟩
  · exact⟨(hLo i Py).2 hi, .inl (hoff i Py).1⟩
 have hB:=B (GC N ν1) (lv (DB E Lh)) (λp hp=>⟨hν2 p hp,hL2 p.1 (AN1.2 ⟨p,hp,rfl⟩)⟩) m2;refine hn (GC N ν1) v w' (I1.put o.dst _ v m1 hKp ?_ (λi b' h1 h2=> ?_) (λi i' hii hi hi' q h1 h2=> ?_) ?_ ?_)
 · obtain⟨us,e1,e2⟩:=hr
   exact nK ⟨us,e1,fP m2 e2⟩
 · by_cases Py:i∈N.map (·.1)
   · obtain⟨b2,l6⟩:=zg i Py
     rw[hon i b2 l6] at h1;injection h1 with h1;subst h1;exact hB _ l6
   · obtain⟨e1,e2⟩:=hoff i Py
     rw[e2] at h1;refine(I1.mem i b' h1 h2).move m1 hKp e1 λq hq=> ?_
     have yA:=(I1.lt ⟨b',h1,h2⟩ hq).1;refine nR.block q yA λz=> ?_
     obtain⟨j,hj,hb⟩:=Kl.1 z;have hji:j≠i:=λe=>Py ((A.mem i).2 (.inl (e▸hj)))
     exact I1.qV j i hji (p2 j hj) ⟨b',h1,h2⟩ q hb hq
 · have old : ∀ {i q},i ∉ N.map (·.1)->lv (DB E Lh) i->C4 (GC N ν1 i)=some q->lv Lh i/\C4 (ν1 i)=some q/\q<w.heap.size/\q ∉ fJ:=λ{i q} Py hi hb=>by
    rw[(hoff i Py).1] at hb;have hi:=(hLo i Py).1 hi;have yA:=(I1.lt hi hb).1;refine⟨hi,hb,yA,λz=> ?_⟩;rcases(AE3 q z).1 with z | z
    · obtain⟨j,hj,Zh⟩:=Kl.1 z
      have hji:j≠i:=λe=>Py ((A.mem i).2 (.inl (e▸hj)))
      exact I1.qV j i hji (p2 j hj) hi q Zh hb
    · omega
   have new : ∀ {i q},i∈N.map (·.1)->C4 (GC N ν1 i)=some q-> ∃p∈N,p.1=i/\C4 p.2=some q:=λ{i q} Py hb=>by
    obtain⟨p,hp,rfl⟩:=AN1.1 Py;rw[hν2 p hp] at hb;exact⟨p,hp,rfl,hb⟩
   by_cases Py:i∈N.map (·.1)<;>by_cases zy:i'∈N.map (·.1)
   · obtain⟨p,z1,z2,z3⟩:=new Py h1
     obtain⟨p',y1,y2,y3⟩:=new zy h2;have:p=p':=Tm (A.jF▸AJV) z1 y1 (k:=q) (by rw[z3];simp) (by rw[y3];simp);exact hii (by rw[<-z2,<-y2,this])
   · obtain⟨p,z1,z2,z3⟩:=new Py h1
     exact(old zy hi' h2).2.2.2 (AE4 p z1 q z3)
   · obtain⟨p,z1,z2,z3⟩:=new zy h2
     exact(old Py hi h1).2.2.2 (AE4 p z1 q z3)
   · exact I1.qV i i' hii (old Py hi h1).1 (old zy hi' h2).1 q (old Py hi h1).2.1 (old zy hi' h2).2.1
 · exact⟨nR.os.trans I1.fr.os,nR.tape.trans I1.fr.tape,nR.output.trans I1.fr.output,AN6 I1.fr.size nR.size,λq hq XS=>by
    have yA:=AOB hq I1.fr.size;rw[nR.block q yA λz=> ?_,I1.fr.block q hq XS];obtain⟨j,hj,hb⟩:=Kl.1 z;rcases(I1.lt (p2 j hj) hb).2 with z | z
    · omega
    · exact XS z⟩
 · refine I1.fx.yh λi b0 h1 h2=> ?_
   by_cases Py:i∈N.map (·.1)
   · have hid:i∈Dq Lh tm s.ps os:=((A.mem i).1 Py).resolve_right λz=>by
      rw[hnews i z] at h1;injection h1 with h1;subst h1;cases h2
     obtain⟨y1,b',y2,y3⟩:=A.fx i hid b0 h1 h2;exact⟨hν2 _ y1,b',hon i b' y2,y3⟩
   · obtain⟨e1,e2⟩:=hoff i Py
     exact⟨e1,b0,e2▸h1,h2⟩
end
end
section
def kv (e:MapEntry):Value × Value:=(e.key,e.val)
def en2 (p:Int × Int):Value × Value:=(.int .i64 p.1, .int .i64 p.2)
theorem aJ {n:Int} : ∀ {es:List MapEntry} {xs:List (Int × Int)} (i:Nat),es.map kv=xs.map en2 ->
 (∃j,Instr.findNow (.int .i64) (.int .i64 n) es i=some (some (i+j, .int .i64 (mP xs n)))/\j<es.length/\(es[j]?).map (·.key)=some (.int .i64 n)/\ ∀v,Zf xs n v=xs.set j (n,v)) \/
 (Instr.findNow (.int .i64) (.int .i64 n) es i=some none/\mP xs n=0/\ ∀v,Zf xs n v=xs++ [(n,v)])
 | [],[],i,_=> .inr ⟨rfl,rfl,λ_=>rfl⟩
 | [],_::_,_,h=>by simp at h
 | _::_,[],_,h=>by simp at h
 | e::es,p::xs,i,h=>by
   simp only[ANx,List.cons.injEq] at h;obtain⟨h1,h2⟩:=h;have hk:e.key= .int .i64 p.1:=congrArg Prod.fst h1;have hv:e.val= .int .i64 p.2:=congrArg Prod.snd h1;by_cases hn:p.1=n
   · refine .inl ⟨0, ?_,by simp,by simp[hk,hn],λv=>by simp[Zf,hn]⟩
     simp[Instr.findNow,Instr.sameNow,hk,hn,mP,hv]
   · have hn' : ¬n=p.1:=λq=>hn q.symm
     have hb:(n==p.1)=false:=by simpa using hn'
     rcases aJ (i+1) h2 with⟨j,q1,q2,q3,q4⟩ | ⟨q1,q2,q3⟩
     · refine .inl ⟨j+1, ?_,by simpa using q2,by simpa using q3,λv=>by simp[Zf,hn,q4]⟩
       simp only[Instr.findNow,Instr.sameNow,hk,if_true,hb,q1,mP,if_neg hn];rw[show i+1+j=i+(j+1) by omega]
     · refine .inr ⟨?_,by simp[mP,hn,q2],λv=>by simp[Zf,hn,q3]⟩
       simp only[Instr.findNow,Instr.sameNow,hk,if_true,hb,q1]
theorem wU {es:Array MapEntry} {xs:List (Int × Int)} (h:es.toList.map kv=xs.map en2) (j:Nat) (n v:Int) :
 ((es.modify j λe=> {e with key:= .int .i64 n,val:= .int .i64 v}).toList.map kv)=(xs.set j (n,v)).map en2:=by
 rw[Array.toList_modify];have hl:es.toList.length=xs.length:=by simpa using congrArg List.length h
 apply AOP;intro q;have hq:=congrArg (λl=>l[q]?) h;simp only[APA] at hq ⊢;rw[List.getElem?_modify,APS];by_cases e:j=q
 · subst e
   by_cases hj:j<xs.length
   · have hj':j<es.toList.length:=by omega
     simp[hj,ANX hj',kv,en2]
   · have hj' : ¬j<es.toList.length:=by omega
     simp[hj];exact Nat.le_of_not_lt hj'
 · simpa[e] using hq
section
variable {P:Program} {Θ:JE} {S:FuncId->Option FE} {k:Nat} {o:Oper} {U0:Nat->Prop} {ν:Nat->Value} {tm:List AV} {hp:List AB} {w0:St} {w:World} {a:Act} {R:Type} {K:AV->HC->Tree R} {r:R}
theorem fQ (hΘ:Θ.ok P=true) {t:TypeId} (h:yy Θ t=true) : ∃kt vt,P.underlying t=some (.map kt vt)/\P.underlying kt=some (.int .i64)/\ ∀w,(zeroValue vt).run P w= .ok (.int .i64 0) w:=by
 unfold yy at h;split at h
 · rename_i i hi
   split at h
   · rename_i kt vt hk
     split at h
     · rename_i ka vb hka hvb
       split at h
       · rename_i h1 h2
         obtain⟨_,d,_,hd,_,_,hB,_⟩:=BO hΘ hi;rw[hk] at hB;obtain⟨_,d1,_,hd1,_,_,hB1,_⟩:=BO hΘ hka;rw[h1] at hB1;rw[mW hB1] at hd1;obtain⟨f,d2,hf,_,_,_,_,_,_,z,hz,l9⟩:=BO hΘ hvb;have hmap:d= .map kt vt:=by
          cases d<;>simp[JI] at hB
          rw[hB.1,hB.2]
         rw[hmap] at hd;refine⟨kt,vt,hd,hd1,λw=> ?_⟩;obtain⟨v1,v2,e1,e2,e3⟩:=Uv (U:=Un (λ_=>False) (λ_=>undef) (λ_=>False)) (t:= .int .i64) (w:=w) (Zj h) (Kj (U0:=λ_=>False) (ν:=λ_=>undef) (L:=λ_=>False) l9);have e4:v2= []:=by
          cases v2 with
          | nil=>rfl
          | cons _ _=>exact e3.elim
         have e5:v1= [.int .i64 (0:Int)]:=e2;rw[e4,e5] at e1;simp[zeroValue,typeInfo,hf,hz,e1,Ny]
       · cases h
     · cases h
   · cases h
 · cases h
theorem ud {L:Nat->Prop} {j:Nat} {v:Value} (h:Fa U0 ν L w (.val [.own j]) v):v=ref (ν j):=(show L j/\v=ref (ν j) from val_one h).2
theorem rX {k:IntKind} (h:uK k=true):k= .i64:=by cases k<;>first | rfl | cases h
theorem Inv.ADi (I:Inv U0 ν tm hp w0 a w) {j:Nat} {xs:List (Int × Int)} (hb:hp[j]? =some (.map xs)) : ∃g es c,ν j= .map (some g)/\w0.heap.size<=g/\w.heap[g]? =some (.map es c)/\es.toList.map kv=xs.map en2:=I.mem j _ hb rfl
theorem rY (hΘ:Θ.ok P=true) (I:Inv U0 ν tm hp w0 a w) (hU : ∀q,U0 q->q<w0.heap.size) {t:TypeId} {rs:Option Operand} (ho:o.op= .makeMap t rs) (h:(stepT Θ S k tm hp o.dst (.makeMap t rs) K).run=some r):CX P Θ S k o U0 ν tm hp w0 a w K r:=by
 cases rs with
 | some _=>simp only[stepT] at h;cases h
 | none =>
 simp only[stepT] at h;split at h
 · rename_i q hq
   split at h
   · refine⟨_,_,h, ?_⟩
     intro hh next Q hn
     have hrun:(execOp a.eval o).run P w= .ok (.value (.map (some w.heap.size))) (w.alloc (.map #[] 0)):=by
      simp[execOp,ho,run_makeMap]
     unfold Oper.wp;rw[hrun];rw[hq] at hh hn;obtain⟨hg,hb,_⟩:=Mq hh;show next (a.put o.dst _) _
     rw[hq];refine hn (upd ν q (.map (some w.heap.size))) _ _ (I.new hU hg hb (by simp) (λk hk=>Below.heap_alloc _ _ _ hk) (λk hk=> ?_) (I.fr.alloc _) (λm hL=> ?_) _)
     · injection hk with hk
       omega
     · exact⟨⟨w.heap.size,#[],0,BQ,I.fr.size,heap_alloc_new w _,rfl⟩,D3 (c:= .own q) ⟨((D4 hg hb).1 q).2 (.inr rfl),by rw[BQ];rfl⟩⟩
   · cases h
 · cases h
theorem wV (hΘ:Θ.ok P=true) (I:Inv U0 ν tm hp w0 a w) {t:TypeId} {x y:Operand} {ok:Bool} (ho:o.op= .lookup t x y ok) (h:(stepT Θ S k tm hp o.dst (.lookup t x y ok) K).run=some r):CX P Θ S k o U0 ν tm hp w0 a w K r:=by
 cases ok with
 | true=>simp only[stepT] at h;cases h
 | false =>
 simp only[stepT] at h;split at h
 · rename_i j kk n hx hy
   split at h
   · rename_i xs hb
     split at h
     · rename_i hc
       obtain⟨hm,hk⟩:=hc;obtain rfl:=rX hk;obtain⟨kt,vt,ht,hkt,hz⟩:=fQ hΘ hm;obtain⟨g,es,c,h1,h2,h3,h4⟩:=I.ADi hb;have hv:a.eval x= .map (some g):=by
        have:=ud (hx▸I.AQ x);rw[this,h1];rfl
       have hn:=Fc (hy▸I.AQ y);refine⟨_,_,h,Ab I (v:= .int .i64 (mP xs n)) ?_ (Hh _ _)⟩;have hck:=MapKept.run_checkKey (P:=P) (w:=w) (k:= .int .i64 n) hkt (by simp[MapKept.IsKey]) es.isEmpty 9999;simp only[execOp,ho,hv,hn];rcases aJ (n:=n) 0 h4 with⟨q,e1,_⟩ | ⟨e1,e2,_⟩
       · have hfk:=MapKept.run_findKey (P:=P) (w:=w) hkt e1
         simp[Instr.lookup,run_underlying ht,MapKept.run_getObj_map h3,hck,hfk,Result.andThen]
       · have hfk:=MapKept.run_findKey (P:=P) (w:=w) hkt e1
         simp[Instr.lookup,run_underlying ht,MapKept.run_getObj_map h3,hck,hfk,hz,Result.andThen,e2]
     · cases h
   · cases h
 · cases h
theorem jI (hΘ:Θ.ok P=true) (I:Inv U0 ν tm hp w0 a w) {t:TypeId} {x y z:Operand} (ho:o.op= .mapUpdate t x y z) (h:(stepT Θ S k tm hp o.dst (.mapUpdate t x y z) K).run=some r):CX P Θ S k o U0 ν tm hp w0 a w K r:=by
 simp only[stepT] at h;split at h
 · rename_i j kk n kk' v hx hy hz hd
   split at h
   · rename_i xs hb
     split at h
     · rename_i hc
       obtain⟨hm,hk,hk'⟩:=hc;obtain rfl:=rX hk;obtain rfl:=rX hk';obtain⟨kt,vt,ht,hkt,_⟩:=fQ hΘ hm;obtain⟨g,es,c,h1,h2,h3,h4⟩:=I.ADi hb;have hv:a.eval x= .map (some g):=by
        have:=ud (hx▸I.AQ x);rw[this,h1];rfl
       have e1:=Fc (hy▸I.AQ y);have e2:=Fc (hz▸I.AQ z);have hck:=MapKept.run_checkKey (P:=P) (w:=w) (k:= .int .i64 n) hkt (by simp[MapKept.IsKey]) false 9999;have hrun : ∃es' c',(execOp a.eval o).run P w= .ok .skip {w with heap:=w.heap.setIfInBounds g (.map es' c')} /\es'.toList.map kv=(Zf xs n v).map en2:=by
        simp only[execOp,ho,hv,e1,e2];rcases aJ (n:=n) 0 h4 with⟨q,f1,f2,f3,f4⟩ | ⟨f1,_,f3⟩
        · have hfk:=MapKept.run_findKey (P:=P) (w:=w) hkt f1
          refine⟨es.modify q λe=> {e with key:= .int .i64 n,val:= .int .i64 v},c, ?_,by rw[f4];exact wU h4 q n v⟩;have hq:q<es.size:=(by simpa using f2);have hkey:((es[q]?).map (·.key)).getD (.int .i64 n)= .int .i64 n:=by
           have:es.toList[q]? =es[q]? :=(by simp);rw[<-this,f3];rfl
          have AMV:(match es[q]? with | some e=>e.key | none=>Value.int .i64 n)= .int .i64 n:=by
           rw[<-hkey];cases es[q]? <;>rfl
          have hst:(Instr.keyThatStays (.int .i64 n) (.int .i64 n)).run P w= .ok (.int .i64 n) w:=by
           simp[Instr.keyThatStays,Instr.sameBits]
          simp[Instr.mapUpdate,run_underlying ht,MapKept.run_getObj_map h3,hck,hfk,Result.andThen,hkey,hst,MapKept.run_setObj_map _ h3]
        · have hfk:=MapKept.run_findKey (P:=P) (w:=w) hkt f1
          refine⟨es.push ⟨.int .i64 n, .int .i64 v,c⟩,c+1, ?_,by rw[f3];simp[h4,kv,en2]⟩;simp[Instr.mapUpdate,run_underlying ht,MapKept.run_getObj_map h3,hck,hfk,Result.andThen,MapKept.run_setObj_map _ h3]
       obtain⟨es',c',hrun,h5⟩:=hrun;refine⟨_,_,h, ?_⟩;intro hh next Q hn
       unfold Oper.wp;rw[hrun];refine hn ν undef {w with heap:=w.heap.setIfInBounds g (.map es' c')} ?_;rw[show N3 o.dst hp ⟨none,[(j, .map (Zf xs n v))]⟩=hp.set j (.map (Zf xs n v)) from rfl];obtain⟨s1,s2⟩:=MapKept.heap_set (o':= .map es' c') h3;refine I.ACU (w':= {w with heap:=w.heap.setIfInBounds g (.map es' c')}) (b:= .map (Zf xs n v)) hb rfl rfl (by rw[h1];rfl) (by simp) s2 ⟨I.fr.os,I.fr.tape,I.fr.output,by have:=I.fr.size;simpa using this,λq hq XS=>(s2 q (by omega)).trans (I.fr.block q hq XS)⟩ (by intro z;cases z) (λm=> ?_) _ _;exact⟨g,es',c',h1,h2,s1,h5⟩
     · cases h
   · cases h
 · cases h
end
end
section
section
variable {P:Program} {Θ:JE} {S:FuncId->Option FE} {k:Nat} {o:Oper} {U0:Nat->Prop} {ν:Nat->Value} {L:Nat->Prop} {tm:List AV} {hp:List AB} {w0:St} {w:World} {a:Act} {R:Type} {K:AV->HC->Tree R} {r:R}
theorem NfR.rel {U:Nat->Prop} (hU : ∀q,q<w.heap.size->Un U0 ν L q->U q) : ∀ {fs:List NF} {x:NT fs} {us:List Value},NfR U w fs x us->CD (CW U0 ν L w) (ncs fs x) us
 | [],x,us,h=>by rw[show us= [] from h];trivial
 | .ty t::l,x,us,h=>by
   obtain⟨v1,v2,rfl,q1,q2⟩:=h;exact(Gj t x.1 (q1.move ⟨ANS _,λ_ _ _=>rfl,λq hq z=>hU q hq z⟩)).app (NfR.rel hU q2)
 | .nil::l,x,us,h=>by
   obtain⟨us',rfl,q⟩:=h;exact⟨rfl,NfR.rel (fs:=l) hU q⟩
theorem AGS (hS:FP P S k) (I:Inv U0 ν tm hp w0 a w) (hU : ∀q,U0 q->q<w0.heap.size) {c:Call} {g:FuncId} (hg:c.callee= .value (.func g)) (ho:o.op= .call c) {s:Zi} (hs:S g=some (.np s)) {x:TT s.ps} (hx:args hp tm s.ps c.args.toList=some x) {t:Tmp} (hd:o.dst=some t)
 (h:(Tree.dR (s.f k x) λr=>Tree.J2 (r.1=true) (K (.val [.Li]) ⟨none,HZ hp tm c.args.toList⟩) (K (.val [.ptr t 0]) ⟨some (.cells .mine s.e (ncs s.fs r.2)),HZ hp tm c.args.toList⟩)).run=some r):CX P Θ S k o U0 ν tm hp w0 a w K r:=by
 obtain⟨y,hf,h⟩:=Tree.Rf h;obtain⟨hb,hk⟩:=hS g _ hs;have hrun:(execOp a.eval o).run P w= .ok (.enter g (c.args.toList.map a.eval).toArray) w:=Rm hg ho hb;have hfz:=Uq (hp:=hp) (tm:=tm) c.args.toList;obtain⟨ν',I'⟩:=I.IA hU hfz;have zh : ∀q,Un U0 ν' (lv (DB (HZ hp tm c.args.toList) hp)) q->q<w.heap.size:=λq hq=>by
  rcases hq with hq | ⟨j,hj,hb⟩
  · exact AOB (hU q hq) I'.fr.size
  · exact(I'.lt hj hb).1
 have call:=hk k (ANS _) x y hf _ w _ zh (QE I' (λq _ hq=>hq) (λo' ho'=>Cc.frz hfz (λj e t xs hj hb=>Us ho' hj hb) _ _) ((Ur hfz _ _).trans hx));rcases Tree.Ln h with⟨hy,h⟩ | ⟨hy,h⟩
 · refine⟨_,_,h, ?_⟩
   intro hh next Q hn
   unfold Oper.wp;rw[hrun,Oper.upon_enter];refine call.mono λe w' hq=> ?_
   obtain⟨v,rfl,Pt,⟨_,rfl⟩ | ⟨hf2,_⟩⟩:=hq
   · show next (a.put o.dst _) w'
     refine hn ν' _ w' ?_;exact I'.go o.dst _ _ Pt.size Pt.block (λj hj q hq=>(I'.lt hj hq).1) (D3 (c:= .Li) rfl) (I'.fr.step Pt)
   · rw[hy] at hf2;cases hf2
 · refine⟨_,_,h, ?_⟩
   intro hh next Q hn
   unfold Oper.wp;rw[hrun,Oper.upon_enter];refine call.mono λe w' hq=> ?_
   obtain⟨v,rfl,Pt,⟨hf2,_⟩ | ⟨_,b,us,rfl,hbs,hbb,hnf⟩⟩:=hq
   · exact absurd hf2 hy
   · show next (a.put o.dst _) w'
     rw[hd] at hh hn ⊢;obtain⟨hg,hb',_⟩:=Mq hh;have hg':(DB (HZ hp tm c.args.toList) hp)[t]? =some .gone:=by
      rcases FR hfz t with q | ⟨_,_,_,q,_⟩
      · rw[q,hg]
      · rw[hg] at q;cases q
     refine hn (upd ν' t (.pointer (some ⟨b,0,none⟩))) _ w' (I'.new hU hg' hb' Pt.size Pt.block (λk hk=> ?_) (I'.fr.step Pt) (λm hL=> ?_) _)
     · injection hk with hk
       have hk:b=k:=hk;omega
     · obtain⟨hlv,hnt⟩:=D4 hg' hb'
       refine⟨⟨b,us,BQ,KQ.new (AN6 I'.fr.size hbs),hbb,NfR.rel (λq _ hu=> ?_) hnf⟩,D3 (c:= .ptr t 0) (show CW _ _ _ _ (.ptr t 0) _ from⟨(hlv t).2 (.inr rfl),_,BQ,rfl⟩)⟩;rcases hu with hu | ⟨j,hj,Zh⟩
       · exact .inl (.inl hu)
       · rcases(hlv j).1 hj with hj | hj
         · rw[Fz (λz:j=t=>hnt (z▸hj))] at Zh;exact .inl (.inr ⟨j,hj,Zh⟩)
         · subst hj
           rw[BQ] at Zh;injection Zh with Zh;exact .inr Zh.symm
end
end
section
section
variable {P:Program} {Θ:JE} {S:FuncId->Option FE} {k:Nat} {o:Oper} {U0:Nat->Prop} {ν:Nat->Value} {tm:List AV} {hp:List AB} {w0:St} {w:World} {a:Act} {R:Type} {K:AV->HC->Tree R} {r:R}
theorem uP (hΘ:Θ.ok P=true) (hS:FP P S k) (I:Inv U0 ν tm hp w0 a w) (hU : ∀q,U0 q->q<w0.heap.size) (h:(stepT Θ S k tm hp o.dst o.op K).run=some r) (hst : ∀t x y,o.op= .store t x y->o.dst=none):CX P Θ S k o U0 ν tm hp w0 a w K r:=by
 cases ho:o.op<;>rw[ho] at h
 case move x=>exact uL I (.inl ho) (by simpa only[stepT] using h)
 case assign x=>exact uL I (.inr ho) (by simpa only[stepT] using h)
 case pick c x y=>exact AB8 I ho h
 case binOp b t x y u=>exact zD hΘ I ho h
 case unOp b t x=>exact ACB I ho h
 case nilCheck x=>exact mV I ho h
 case extract x i=>exact rB I ho h
 case convert s t x=>exact rA hΘ I ho h
 case load t x=>exact ACC hΘ I ho h
 case store t x y=>exact zn hΘ I hU ho (hst t x y ho) h
 case fieldAddr s x f=>exact iM hΘ I ho h
 case indexAddr t x y=>exact iN hΘ I ho h
 case index t x y=>exact zB hΘ I ho h
 case box e x=>exact AEz hΘ I hU ho h
 case alloc e=>exact zm hΘ I hU ho h
 case build t ps=>exact zl hΘ I ho h
 case buildSlice t n ps=>exact dV hΘ I hU ho h
 case makeSlice t x y=>exact jC hΘ I hU ho h
 case slice t x lo hi mx=>exact ok_slice hΘ I hU ho h
 case makeMap t rs=>exact rY hΘ I hU ho h
 case lookup t x y q=>exact wV hΘ I ho h
 case mapUpdate t x y z=>exact jI hΘ I ho h
 case call c =>
  cases hc:c.callee with
  | value f =>
    cases f with
    | func g =>
      simp only[stepT,hc] at h;split at h
      · rename_i s nm hs
        split at h
        · rename_i x hx
          split at h
          · rename_i hl
            exact AE2 hS I hU hc ho hs hx hl h
          · cases h
        · cases h
      · rename_i s hs
        split at h
        · rename_i x hx
          exact ACV hS I hU hc ho hs hx h
        · cases h
      · rename_i s hs
        split at h
        · rename_i x q hx hd
          exact AGS hS I hU hc ho hs hx hd h
        · cases h
      · rename_i s hs
        split at h
        · rename_i x q hx hd
          exact AE0 hS I hU hc ho hs hx hd h
        · cases h
      · cases h
    | tmp _=>simp only[stepT,hc] at h;cases h
    | const _=>simp only[stepT,hc] at h;cases h
    | global _=>simp only[stepT,hc] at h;cases h
  | invoke _ _=>simp only[stepT,hc] at h;cases h
  | builtin b =>
    cases b
    case len=>exact AEv hΘ I hc ho h
    case max=>exact AEw I hc ho h
    case min=>exact AEx I hc ho h
    case append=>exact wT hΘ I hU hc ho h
    all_goals (simp only[stepT,hc] at h;cases h)
 all_goals (simp only[stepT] at h;cases h)
end
section
variable {R:Type}
noncomputable def P8 (Θ:JE) (S:FuncId->Option FE) (k:Nat) (ops:Array Oper) (l:List Oper):List AV->List AB->(List AV->List AB->Tree R)->Tree R :=
 List.rec (motive:=λ_=>List AV->List AB->(List AV->List AB->Tree R)->Tree R) (λtm hp K=>K tm hp) (λo _ ih tm hp K=>match o.guard with
  | none=>stepT Θ S k tm hp o.dst o.op λx δ=>if hok o.dst hp δ=true then SP tm o.dst x λEl=>XT o.dst hp δ λB0=>ih El B0 K else .non
  | some (j,want)=>match (ops[j]?).bind (·.dst) with
    | some t=>match AQ tm (.tmp t) with
      | .val [.ro .bool b]=>Tree.J2 ((b:Bool)=want) (stepT Θ S k tm hp o.dst o.op λx δ=>if hok o.dst hp δ=true then SP tm o.dst x λEl=>XT o.dst hp δ λB0=>ih El B0 K else .non) (SP tm o.dst .un λEl=>ih El hp K)
      | .un=>SP tm o.dst .un λEl=>ih El hp K
      | _=> .non
    | none=> .non) l
theorem nS (Θ:JE) (S:FuncId->Option FE) (k:Nat) (ops:Array Oper) (o:Oper) (rest:List Oper) (tm:List AV) (hp:List AB) (K:List AV->List AB->Tree R):P8 Θ S k ops (o::rest) tm hp K=(match o.guard with
 | none=>stepT Θ S k tm hp o.dst o.op λx δ=>if hok o.dst hp δ=true then SP tm o.dst x λEl=>XT o.dst hp δ λB0=>P8 Θ S k ops rest El B0 K else .non
 | some (j,want)=>match (ops[j]?).bind (·.dst) with
   | some t=>match AQ tm (.tmp t) with
     | .val [.ro .bool b]=>Tree.J2 ((b:Bool)=want) (stepT Θ S k tm hp o.dst o.op λx δ=>if hok o.dst hp δ=true then SP tm o.dst x λEl=>XT o.dst hp δ λB0=>P8 Θ S k ops rest El B0 K else .non) (SP tm o.dst .un λEl=>P8 Θ S k ops rest El hp K)
     | .un=>SP tm o.dst .un λEl=>P8 Θ S k ops rest El hp K
     | _=> .non
   | none=> .non):=rfl
end
section
variable {P:Program} {Θ:JE} {S:FuncId->Option FE} {k:Nat} {o:Oper} {U0:Nat->Prop} {ν:Nat->Value} {tm:List AV} {hp:List AB} {w0:St} {w:World} {a:Act} {R:Type} {r:R} {ops:Array Oper}
theorem Tf (I:Inv U0 ν tm hp w0 a w) {j:Nat} {t:Tmp} {b:Bool} (ht:(ops[j]?).bind (·.dst)=some t) (hb:AQ tm (.tmp t)= .val [.ro .bool b]):yielded ops a.tmps j=some b:=by
 have hv:=Rg (hb▸I.AQ (.tmp t));have hv:a.tmps.getD t undef= .bool b:=hv;unfold yielded;rw[ht];simp only[AOO];rw[ANz] at hv;cases hq:a.tmps[t]? with
 | none=>rw[hq] at hv;simp[undef] at hv
 | some v =>
   rw[hq] at hv;have hv:v= .bool b:=hv;subst hv;rfl
def ACE (want:Bool):AV->Prop
 | .val [.ro .bool b]=> ¬(b:Bool)=want
 | .un=>True
 | _=>False
theorem Z0 (I:Inv U0 ν tm hp w0 a w) {j:Nat} {want:Bool} {t:Tmp} (hg:o.guard=some (j,want)) (ht:(ops[j]?).bind (·.dst)=some t) (h:ACE want (AQ tm (.tmp t))) : ¬Region.wanted o (yielded ops a.tmps)=true:=by
 unfold ACE at h;split at h
 · rename_i b hb
   simpa[Region.wanted,hg,Tf I ht hb] using h
 · rename_i hu
   have hv:Fa U0 ν (lv hp) w .un (a.eval (.tmp t)):=hu▸I.AQ (.tmp t);have hv:a.tmps.getD t undef=undef:=hv;have hy:yielded ops a.tmps j=none:=by
    unfold yielded;rw[ht];simp only[AOO];rw[ANz] at hv;cases hq:a.tmps[t]? with
    | none=>rfl
    | some v =>
      rw[hq] at hv;have hv:v=undef:=hv;subst hv;rfl
   simp[Region.wanted,hg,hy]
 · exact h.elim
theorem iZ {Q:Exit->Act->World->Prop} (hΘ:Θ.ok P=true) (hS:FP P S k) {K:List AV->List AB->Tree R} (hK : ∀El B0,(K El B0).run=some r-> ∀ν' a' w',Inv U0 ν' El B0 w0 a' w'->Q .normal a' w') (Yf : ∀q,U0 q->q<w0.heap.size) :
 ∀(l:List Oper) (tm:List AV) (hp:List AB) (ν:Nat->Value) (a:Act) (w:World),(∀o∈l,∀t x y,o.op= .store t x y->o.dst=none)->(P8 Θ S k ops l tm hp K).run=some r->Inv U0 ν tm hp w0 a w->wpList P ops Q l a w
 | [],tm,hp,ν,a,w,_,h,I=>hK tm hp h ν a w I
 | o::rest,tm,hp,ν,a,w,hst,h,I=>by
   have AE5 : ∀o∈rest,∀t x y,o.op= .store t x y->o.dst=none:=λo ho=>hst o (ANG _ ho)
   have go:(stepT Θ S k tm hp o.dst o.op λx δ=>if hok o.dst hp δ=true then P8 Θ S k ops rest (Lj tm o.dst x) (N3 o.dst hp δ) K else .non).run=some r->o.wp P a w (wpList P ops Q rest) Q:=by
    intro h;obtain⟨x,δ,hx,hg⟩:=uP hΘ hS I Yf h (hst o ANH);dsimp only at hx;split at hx
    · rename_i hk
      exact hg hk _ _ λν' v w' I'=>iZ hΘ hS hK Yf rest _ _ ν' _ w' AE5 hx I'
    · cases hx
   unfold wpList;simp only[nS,uJ,mS] at h;split at h
   · rename_i hg
     rw[if_pos (by simp[Region.wanted,hg])];exact .inl (go h)
   · rename_i j want hg
     split at h
     · rename_i t ht
       split at h
       · rename_i b hb
         have hy:=Tf I ht hb;rcases Tree.Ln h with⟨hw,h⟩ | ⟨hw,h⟩
         · rw[if_pos (by simp[Region.wanted,hg,hy,hw])]
           exact .inl (go h)
         · rw[if_neg (by simpa[Region.wanted,hg,hy] using hw)]
           exact iZ hΘ hS hK Yf rest _ _ ν _ w AE5 h (I.P3 o.dst (x:= .un) (v:=undef) rfl)
       · rename_i hu
         rw[if_neg (Z0 I hg ht (by rw[hu];trivial))];exact iZ hΘ hS hK Yf rest _ _ ν _ w AE5 h (I.P3 o.dst (x:= .un) (v:=undef) rfl)
       · cases h
     · cases h
end
end
section
section
variable {Θ:JE} {S:FuncId->Option FE} {k:Nat} {tm El:List AV} {hp B0:List AB} {R:Type}
noncomputable def step (Θ:JE) (S:FuncId->Option FE) (k:Nat) (tm:List AV) (hp:List AB) (d:Option Tmp) (o:Op):Option (AV × HC):=(stepT Θ S k tm hp d o (λx δ=> .done (x,δ))).run
def Fit (x:Tree R) (y:Tree (AV × HC)) (K:AV->HC->Tree R):Prop:=x.run=y.run.bind λp=>(K p.1 p.2).run
theorem Fit.same (K:AV->HC->Tree R) (x:AV) (δ:HC):Fit (K x δ) (.done (x,δ)) K:=rfl
theorem Fit.non (K:AV->HC->Tree R):Fit .non .non K:=rfl
theorem Fit.J2 {K:AV->HC->Tree R} {c:Prop} [d:Decidable c] {x y:Tree R} {x' y':Tree (AV × HC)} (h1:Fit x x' K) (h2:Fit y y' K):Fit (.J2 c x y) (.J2 c x' y') K:=by
 show(if c then x.run else y.run)=(if c then x'.run else y'.run).bind _;split
 · exact h1
 · exact h2
theorem Fit.dR {A:Type} {K:AV->HC->Tree R} {x:Option A} {f:A->Tree R} {g:A->Tree (AV × HC)} (h : ∀a,Fit (f a) (g a) K):Fit (.dR x f) (.dR x g) K:=by
 show x.bind _=(x.bind _).bind _;cases x with
 | none=>rfl
 | some a=>exact h a
theorem rG (d:Option Tmp) (o:Op) (K:AV->HC->Tree R):(stepT Θ S k tm hp d o K).run=(step Θ S k tm hp d o).bind (λp=>(K p.1 p.2).run):=by
 show Fit (stepT Θ S k tm hp d o K) (stepT Θ S k tm hp d o λx δ=> .done (x,δ)) K;cases o<;>simp only[stepT,yx]<;>(try unfold q8)<;>(try unfold Zk)<;>(try unfold iK)<;>(try unfold q9)<;>(try unfold P4)<;>(repeat' (first | exact Fit.same _ _ _ | exact Fit.non _ | apply Fit.J2 | (refine Fit.dR λa=> ?_) | split))
def reads:Op->List Operand
 | .move x | .assign x | .unOp _ _ x | .convert _ _ x | .extract x _ | .load _ x | .fieldAddr _ x _ | .box _ x | .nilCheck x=> [x]
 | .pick c x y=> [c,x,y]
 | .mapUpdate _ x y z=> [x,y,z]
 | .binOp _ _ x y _ | .lookup _ x y _ | .store _ x y | .indexAddr _ x y | .index _ x y | .makeSlice _ x y=> [x,y]
 | .slice _ x lo hi mx=>x::(lo.toList++hi.toList++mx.toList)
 | .build _ ps | .buildSlice _ _ ps=>ps.toList.map (·.2)
 | .call c=>c.args.toList
 | _=> []
def wG:AC->List Nat
 | .own j | .ptr j _ | .qU j _ _ _ | .Hg j=> [j]
 | _=> []
def rC:AV->List Nat
 | .val cs=>cs.flatMap wG
 | _=> []
theorem jJ {j:Nat} {e:TypeId} {t:Ty} (h:hp[j]? =B0[j]?):ownRow hp j e t=ownRow B0 j e t:=by unfold ownRow;rw[h]
def Cg (hp B0:List AB) (cs:List AC):Prop:= ∀j,AC.own j∈cs->hp[j]? =B0[j]?
theorem Cg.Ee {cs:List AC} (h:Cg hp B0 cs) (t:Ty):Ee hp t cs=Ee B0 t cs/\ ∀x rest,Ee hp t cs=some (x,rest)-> ∀c∈rest,c∈cs:=Rl λj _ _ hj=>jJ (h j hj)
theorem Cg.Kb : ∀ {cs:List AC},Cg hp B0 cs->Kb hp cs=Kb B0 cs
 | [],_=>rfl
 | c::cs,h=>by
   have ih:=Cg.Kb (cs:=cs) λj hj=>h j (ANG _ hj)
   cases c with
   | own j=>simp only[Gb.Kb,h j ANH,ih]
   | _=>simp only[Gb.Kb,ih]
theorem Cg.rows {t:Ty} : ∀ {n:Nat} {cs:List AC},Cg hp B0 cs->rows hp t n cs=rows B0 t n cs
 | 0,[],_=>rfl
 | 0,_::_,_=>rfl
 | n+1,cs,h=>by
   obtain⟨h1,h2⟩:=h.Ee t;simp only[Gb.rows,<-h1];cases hx:Gb.Ee hp t cs with
   | none=>rfl
   | some y =>
     obtain⟨x,cs'⟩:=y;dsimp only;rw[Cg.rows (cs:=cs') λj hj=>h j (h2 x cs' hx _ hj)]
theorem Cg.sub {cs cs':List AC} (h:Cg hp B0 cs) (hs : ∀c∈cs',c∈cs):Cg hp B0 cs':=λj hj=>h j (hs _ hj)
theorem Cg.rd {c:AC} (h:Cg hp B0 [c]) (e:TypeId) (t:Ty):Uc hp e t c=Uc B0 e t c:=by unfold Uc;rw[(h.Ee _).1]
theorem Cg.any {c:AC} (h:Cg hp B0 [c]) (e:TypeId) (t:Ty):eo hp e t c=eo B0 e t c:=by
 unfold eo;cases c with
 | own j=>simp only[h j ANH,h.rd]
 | _=>exact h.rd e t
theorem Cg.grow {c:AC} (h:Cg hp B0 [c]) (e:TypeId) (t:Ty):Jo hp e t c=Jo B0 e t c:=by
 cases c with
 | own j=>simp only[Jo,h j ANH]
 | _=>rfl
theorem Ri {x:AV} (h : ∀j∈rC x,hp[j]? =B0[j]?):Cg hp B0 (cellsOf x):=by
 intro j hj;cases x with
 | val cs=>exact h j (AOq.2 ⟨_,hj,by simp[wG]⟩)
 | _=>cases hj
theorem OC : ∀ {ps:List Ty} {os:List Operand},(∀x∈os,AQ tm x=AQ El x)->(∀x∈os,Cg hp B0 (cellsOf (AQ tm x)))->args hp tm ps os=args B0 El ps os
 | [],[],_,_=>rfl
 | t::ts,o::os,h,h2=>by
   have ho:=h2 o ANH;simp only[args,<-h o ANH,OC (λx hx=>h x (ANG _ hx)) (λx hx=>h2 x (ANG _ hx))];cases hv:AQ tm o with
   | val cs =>
     rw[hv] at ho;dsimp only;rw[(Cg.Ee (cs:=cs) ho t).1]
   | _=>rfl
 | [],_::_,_,_=>rfl
 | _::_,[],_,_=>rfl
theorem Ls : ∀ {os:List Operand},(∀x∈os,AQ tm x=AQ El x)->(∀x∈os,Cg hp B0 (cellsOf (AQ tm x)))->HZ hp tm os=HZ B0 El os
 | [],_,_=>rfl
 | o::os,h,h2=>by
   simp only[HZ,<-h o ANH,(h2 o ANH).Kb,Ls (λx hx=>h x (ANG _ hx)) (λx hx=>h2 x (ANG _ hx))]
theorem nT {place:Nat->Option (Nat × Nat)} : ∀ {l:List (Nat × AV)} {cs out:List AC},Lo place cs l=some out-> ∀c∈out,c∈cs\/ ∃p∈l,c∈cellsOf p.2
 | [],cs,out,h,c,hc=>by
   simp only[Lo] at h;injection h with h;subst h;exact .inl hc
 | (i,v)::l,cs,out,h,c,hc=>by
   cases v with
   | val xs =>
     simp only[Lo] at h;split at h
     · split at h
       · rcases nT h c hc with q | ⟨p,q1,q2⟩
         · rcases ANp.1 q with q | q
           · rcases ANp.1 q with q | q
             · exact .inl (APU q)
             · exact .inr ⟨_,ANH,q⟩
           · exact .inl (APV q)
         · exact .inr ⟨p,ANG _ q1,q2⟩
       · cases h
     · cases h
   | _=>simp[Lo] at h
theorem rE (d:Option Tmp) (o:Op) (K:AV->HC->Tree R) (XS : ∀c g s nm,o= .call c->c.callee= .value (.func g)->S g≠some (.io s nm)) (h1 : ∀x∈reads o,AQ tm x=AQ El x) (h2 : ∀x∈reads o,∀j∈rC (AQ tm x),hp[j]? =B0[j]?):stepT Θ S k tm hp d o K=stepT Θ S k El B0 d o K:=by
 cases o
 case move x=>simp only[stepT,h1 x (by simp[reads])]
 case assign x=>simp only[stepT,h1 x (by simp[reads])]
 case pick c x y=>simp only[stepT,h1 x (by simp[reads]),h1 y (by simp[reads]),h1 c (by simp[reads])]
 case binOp b t x y u=>simp only[stepT,h1 x (by simp[reads]),h1 y (by simp[reads])]
 case unOp b t x=>simp only[stepT,h1 x (by simp[reads])]
 case nilCheck x=>simp only[stepT,h1 x (by simp[reads])]
 case extract x i=>simp only[stepT,h1 x (by simp[reads])]
 case convert s t x=>simp only[stepT,h1 x (by simp[reads])]
 case load t x =>
  have e:=h1 x (by simp[reads]);have q:=h2 x (by simp[reads]);simp only[stepT,<-e];split
  · rename_i j o i hx hi
    rw[hx] at q;rw[q j (by simp[rC,wG])]
  · rfl
  · rename_i j i o sz z hx hi
    rw[hx] at q;rw[q j (by simp[rC,wG])]
  · rfl
 case store t x y =>
  have e:=h1 x (by simp[reads]);have e2:=h1 y (by simp[reads]);have q:=h2 x (by simp[reads]);have q2:=Ri (h2 y (by simp[reads]));simp only[stepT,<-e,<-e2];split
  · rename_i j o xs i hx hy hi
    rw[hx] at q;rw[q j (by simp[rC,wG])]
  · rename_i j i sz ys z hx hy hi
    rw[hx] at q;rw[hy] at q2;have q2:Cg hp B0 ys:=q2;simp only[q j (by simp[rC,wG]),q2.Kb,(q2.Ee _).1]
  · rename_i j ys z hx hy hi
    rw[hx] at q;rw[hy] at q2;have q2:Cg hp B0 ys:=q2;simp only[q j (by simp[rC,wG]),q2.Kb,q2.rows]
  · rfl
 case fieldAddr s x f=>simp only[stepT,h1 x (by simp[reads])]
 case indexAddr t x y =>
  have q:=h2 x (by simp[reads]);have e:=h1 x (by simp[reads]);have e2:=h1 y (by simp[reads]);simp only[stepT,<-e,<-e2];split
  · rfl
  · rename_i j kk i z hx hy hi
    rw[hx] at q;simp only[q j (by simp[rC,wG])]
  · rename_i j kk i z hx hy hi
    rw[hx] at q;simp only[q j (by simp[rC,wG])]
  · rfl
 case makeMap t rs=>cases rs<;>simp only[stepT]
 case lookup t x y q =>
  have q1:=h2 x (by simp[reads]);have e1:=h1 x (by simp[reads]);have e2:=h1 y (by simp[reads]);cases q with
  | true=>simp only[stepT]
  | false =>
  simp only[stepT,<-e1,<-e2];split
  · rename_i j kk n hx hy
    rw[hx] at q1;rw[q1 j (by simp[rC,wG])]
  · rfl
 case mapUpdate t x y z =>
  have q1:=h2 x (by simp[reads]);have e1:=h1 x (by simp[reads]);have e2:=h1 y (by simp[reads]);have e3:=h1 z (by simp[reads]);simp only[stepT,<-e1,<-e2,<-e3];split
  · rename_i j kk n kk' v hx hy hz
    rw[hx] at q1;rw[q1 j (by simp[rC,wG])]
  · rfl
 case alloc e =>
  simp only[stepT];split
  · rename_i i t hi
    by_cases hn:JJ i.zero=true
    · have q:Cg hp B0 i.zero:=λj hj=>absurd hj (JT hn)
      simp only[q.rows,q.Kb]
    · simp[hn]
  · rfl
 case box e x =>
  have e1:=h1 x (by simp[reads]);have q:=Ri (h2 x (by simp[reads]));simp only[stepT,<-e1];split
  · rename_i cs t hx
    rw[hx] at q;have q:Cg hp B0 cs:=q;simp only[q.rows,q.Kb]
  · rfl
 case index t x y=>simp only[stepT,h1 x (by simp[reads]),h1 y (by simp[reads])]
 case build t ps =>
  have e:(ps.toList.map λp=>(p.1,AQ tm p.2))=ps.toList.map λp=>(p.1,AQ El p.2):=AOE λp hp=>by rw[h1 p.2 (AN1.2 ⟨p,hp,rfl⟩)]
  simp only[stepT,e]
 case buildSlice t n ps =>
  have e:(ps.toList.map λp=>(p.1,AQ tm p.2))=ps.toList.map λp=>(p.1,AQ El p.2):=AOE λp hp=>by rw[h1 p.2 (AN1.2 ⟨p,hp,rfl⟩)]
  simp only[stepT,<-e];split
  · split
    · split
      · split
        · split
          · rename_i z hz ty hty hc
            split
            · rename_i cs q hf
              have hs:Cg hp B0 cs:=λj hj=>by
               rcases nT hf _ hj with q | ⟨p,q1,q2⟩
               · obtain⟨_,_,q⟩:=AOq.1 q
                 exact absurd q (JT hc.2.2)
               · obtain⟨p2,Lg,rfl⟩:=AN1.1 q1
                 exact Ri (h2 p2.2 (AN1.2 ⟨p2,Lg,rfl⟩)) j q2
              simp only[hs.rows,hs.Kb]
            · rfl
          · rfl
        · rfl
      · rfl
    · rfl
  · rfl
 case makeSlice t x y=>simp only[stepT,h1 x (by simp[reads]),h1 y (by simp[reads])]
 case slice t x lo hi mx =>
  have e:=h1 x (by simp[reads]);have q:=Ri (h2 x (by simp[reads]));have el:NJ tm lo=NJ El lo:=by
   cases lo with
   | none=>rfl
   | some l=>simp only[NJ,h1 l (by simp[reads])]
  have eh:NJ tm hi=NJ El hi:=by
   cases hi with
   | none=>rfl
   | some l=>simp only[NJ,h1 l (by simp[reads])]
  have em:NJ tm mx=NJ El mx:=by
   cases mx with
   | none=>rfl
   | some l=>simp only[NJ,h1 l (by simp[reads])]
  simp only[stepT,<-e,<-el,<-eh];split
  · split
    · rename_i e' c l h hk hx hl hh
      rw[hx] at q;have q:Cg hp B0 [c]:=q;simp only[q.rd,q.Kb]
    · rfl
    · rfl
  · rw[<-em]
    split
    · rename_i ed e' c h g q' hk hx hh hg
      rw[hx] at q;have q:Cg hp B0 [c]:=q;simp only[q.grow]
    · rfl
  · rfl
 case call c =>
  have hs : ∀x∈c.args.toList,Cg hp B0 (cellsOf (AQ tm x)):=λx hx=>Ri (h2 x hx)
  simp only[stepT];split
  · rename_i g hg
    split
    · rename_i s nm hsx
      exact absurd hsx (XS c g s nm rfl hg)
    · rename_i s hsx
      rw[OC (tm:=tm) (El:=El) (os:=c.args.toList) (λx hx=>h1 x hx) hs,Ls (tm:=tm) (El:=El) (os:=c.args.toList) (λx hx=>h1 x hx) hs]
    · rename_i s hsx
      rw[OC (tm:=tm) (El:=El) (os:=c.args.toList) (λx hx=>h1 x hx) hs,Ls (tm:=tm) (El:=El) (os:=c.args.toList) (λx hx=>h1 x hx) hs]
    · rename_i s hsx
      rw[OC (tm:=tm) (El:=El) (os:=c.args.toList) (λx hx=>h1 x hx) hs,Ls (tm:=tm) (El:=El) (os:=c.args.toList) (λx hx=>h1 x hx) hs]
    · rfl
  · split
    · rename_i x t hx ht
      have hm:x∈c.args.toList:=(by simp[hx]);have q:=h2 x hm;simp only[<-h1 x hm];split
      · rfl
      · rfl
      · rename_i j i hv hi
        rw[hv] at q;simp only[q j (by simp[rC,wG])]
      · rfl
      · rfl
    · rfl
  · split
    · rename_i x y hx
      rw[h1 x (by simp[reads,hx]),h1 y (by simp[reads,hx])]
    · rfl
  · split
    · rename_i x y hx
      rw[h1 x (by simp[reads,hx]),h1 y (by simp[reads,hx])]
    · rfl
  · split
    · rename_i x y t t2 q hx ht
      have hmx:x∈c.args.toList:=(by simp[hx]);have hmy:y∈c.args.toList:=(by simp[hx]);have qx:=hs x hmx;have qy:=hs y hmy;simp only[<-h1 x hmx,<-h1 y hmy];split
      · split
        · split
          · split
            · split
              · split
                · split
                  · rename_i cx cy hvx hvy
                    rw[hvx] at qx;rw[hvy] at qy;have qx:Cg hp B0 [cx]:=qx;have qy:Cg hp B0 [cy]:=qy;simp only[qx.grow,qy.any]
                  · rfl
                · rfl
              · rfl
            · rfl
          · rfl
        · rfl
      · rfl
    · rfl
  · rfl
 all_goals rfl
end
section
variable {α:Type} (n:Nat) (v:Nat->Option α) (b:α)
def lw (D:Nat->Bool):Nat->α
 | 0=>b
 | m+1=>match D m,v m with
   | true,some x=>x
   | _,_=>lw D m
theorem NL {D D':Nat->Bool} : ∀ {n:Nat},(∀m,m<n->v m≠none->D m=D' m)->lw v b D n=lw v b D' n
 | 0,_=>rfl
 | m+1,h=>by
   have ih:lw v b D m=lw v b D' m:=NL λj hj=>h j (by omega)
   unfold lw;cases hv:v m with
   | none=>cases D m<;>cases D' m<;>exact ih
   | some x=>rw[h m (by omega) (by simp[hv]),ih]
theorem Uk {D:Nat->Bool} : ∀ {n i:Nat},i<=n->(∀m,i<=m->m<n->v m≠none->D m=false)->lw v b D n=lw v b D i
 | 0,i,hi,_=>by rw[show i=0 by omega]
 | n+1,i,hi,h=>by
   rcases ANs i (n+1) with hlt | hge
   · have ih:=Uk (n:=n) (i:=i) (by omega) (λm h1 h2=>h m h1 (by omega))
     rw[<-ih];show(match D n,v n with
      | true,some x=>x
      | _,_=>lw v b D n)=lw v b D n
     cases hv:v n with
     | none=>cases D n<;>rfl
     | some x=>rw[h n (by omega) (by omega) (by simp[hv])]
   · rw[show i=n+1 by omega]
theorem ADf {D:Nat->Bool} {i:Nat} (hi:i<n) (hD:D i=false) (h : ∀j,j<n->j≠i->v j≠none->(D j=decide (j<i))):lw v b D n=lw v b (λj=>decide (j<i)) i:=by
 rw[Uk (i:=i) v b (by omega) (λm h1 h2 h3=>by
  by_cases hm:m=i
  · rw[hm];exact hD
  · rw[h m h2 hm h3];exact decide_eq_false (by omega))]
 exact NL v b λm hm hv=>h m (by omega) (by omega) hv
theorem uO {D:Nat->Bool} {i:Nat} {x:α} (hi:i<n) (hv:v i=some x) (hD:D i=true) (h : ∀j,j<n->i<j->v j≠none->D j=false):lw v b D n=x:=by
 rw[Uk (i:=i+1) v b (by omega) (λm h1 h2 h3=>h m h2 (by omega) h3)];simp only[lw,hD,hv]
theorem mz {D:Nat->Bool} {i:Nat} (hv:v i=none):lw v b (λj=>if j=i then true else D j) n=lw v b D n :=
 NL v b λm _ hm=>by
  have:m≠i:=λq=>hm (q▸hv)
  simp[this]
end
end
end Go.Proofs.YtjocbnjpjihpnaaGreatW.Gb
end
