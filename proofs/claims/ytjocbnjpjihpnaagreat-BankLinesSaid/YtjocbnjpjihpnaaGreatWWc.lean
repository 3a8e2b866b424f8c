/- Words for walks over printed functions: those that are used here, as a program has laid them. -/
import Derived.Test.YtjocbnjpjihpnaaGreatWWb
set_option linter.unusedSimpArgs false
section
namespace Go.Proofs.YtjocbnjpjihpnaaGreatW.HU
open Go.RowKit Go.Proofs.YtjocbnjpjihpnaaGreatW.AD Go.Proofs.YtjocbnjpjihpnaaGreatW.AU Go.Proofs.YtjocbnjpjihpnaaGreatW.Ac
set_option linter.unusedVariables false
set_option linter.unusedSectionVars false
set_option linter.unusedSimpArgs false
section
section
variable {P:Program} {Θ:Kb} {S:FuncId->Option FE} {k:Nat} {U0:Nat->Prop} {w0:St} {R:Type} {r:R} {ops:Array Oper} {B:List Nat} {us:Nat->Out} {JL:List AV} {G9:List AB}
def dn (listed:Array Bool) (j:Nat):Bool:=listed.getD j true
theorem U6 {listed:Array Bool} (hl:listed.size=ops.size) {i:Nat} :i∈Region.ready .any ops listed↔i<ops.size/\dn listed i=false/\ ∀q∈needs ops i,listed.getD q false=true:=by
 unfold Region.ready;simp only[List.mem_filter,AQ7,APz,ARG];unfold dn needs;refine and_congr_right λhi=>and_congr_right λ_=> ?_
 rw[AR6 hi];simp only[ASk,AR9];refine Iff.trans (iff_of_eq (congrArg (· =true) (X6 (md:= .any) ops[i] (λq=>listed.getD q false)))) ?_;rw[AQX]
theorem qt {listed:Array Bool} (hl:listed.size=ops.size) {q:Nat} (hq:q<ops.size):listed.getD q false=dn listed q:=by
 unfold dn;simp[AQZ,show q<listed.size by omega]
theorem vS {listed:Array Bool} (hl:listed.size=ops.size) {i:Nat} (hi:i<ops.size):dn (listed.setIfInBounds i true)=also (dn listed) i:=by
 funext j
 unfold dn also;by_cases h:j=i
 · subst h
   simp[AQZ,show j<listed.size by omega]
 · rw[if_neg h]
   simp[AQZ,Array.getElem?_setIfInBounds,ASz h]
def left (D:Nat->Bool) (n:Nat):Nat:=(List.range n).countP λj=> !D j
theorem jc {D:Nat->Bool} : ∀ {n i:Nat},i<n->D i=false->left (also D i) n+1=left D n
 | 0,i,hi,_=>by omega
 | n+1,i,hi,hD=>by
   unfold left;rw[ASl,List.countP_append,List.countP_append];by_cases h:i=n
   · subst h
     have:(List.range i).countP (λj=> !also D i j)=(List.range i).countP λj=> !D j:=List.countP_congr λj hj=>by
      have:j≠i:=(by have:=AQ7.1 hj;omega);simp[also,this]
     rw[this];simp[also,hD]
   · have ih:=jc (D:=D) (n:=n) (i:=i) (by omega) hD
     unfold left at ih;have:also D i n=D n:=(by unfold also;rw[if_neg (ASz h)]);simp only[List.countP_singleton,this];omega
theorem AAS {D:Nat->Bool} {n:Nat} (h:left D n=0) {j:Nat} (hj:j<n):D j=true:=by
 unfold left at h;rw[List.countP_eq_zero] at h;simpa using h j (AQ7.2 hj)
theorem ABx (hB:PI ops B=true) {listed:Array Bool} (hl:listed.size=ops.size) (hr:Region.ready .any ops listed= []) : ∀j,j<ops.size->dn listed j=true:=by
 intro j;induction j using Nat.strongRecOn with
 | _ j ih =>
   intro hj;cases hD:dn listed j with
   | true=>rfl
   | false =>
     have:j∈Region.ready .any ops listed:=(U6 hl).2 ⟨hj,hD,λq hq=>by
      have hlt:=(PJ hB hj).2.1 q hq;rw[qt hl (by omega)];exact ih q hlt (by omega)⟩
     rw[hr] at this;cases this
theorem AHK {Q:Exit->Act->World->Prop} (hΘ:Θ.ok P=true) (hS:F3 P S k) (hB:PI ops B=true) (hN:cj ops B=true) (hst : ∀o∈ops.toList,∀t x y,o.op= .store t x y->o.dst=none) (rec:mE Θ S k ops B us JL G9 ops.size) (Z7 : ∀q,U0 q->q<w0.heap.size)
 (hQ : ∀ν' a' w',Inv U0 ν' (Tq ops us JL (Vt ops.size) ops.size) (Tr ops us G9 (Vt ops.size) ops.size) w0 a' w'->Q .normal a' w') :
 ∀(fuel:Nat) (listed:Array Bool) (ν:Nat->Value) (a:Act) (w:World),listed.size=ops.size->X7 ops (dn listed)->left (dn listed) ops.size<=fuel->Inv U0 ν (Tq ops us JL (dn listed) ops.size) (Tr ops us G9 (dn listed) ops.size) w0 a w->wpAny P .any ops Q fuel listed a w:=by
 have fin : ∀ {listed:Array Bool} {ν:Nat->Value} {a:Act} {w:World},(∀j,j<ops.size->dn listed j=true)->Inv U0 ν (Tq ops us JL (dn listed) ops.size) (Tr ops us G9 (dn listed) ops.size) w0 a w->Q .normal a w:=by
  intro listed ν a w hall I;have e1:Tq ops us JL (dn listed) ops.size=Tq ops us JL (Vt ops.size) ops.size:=by
   unfold Tq;refine AQn λt _=>OR _ _ λm hm _=> ?_
   rw[hall m hm];exact(decide_eq_true hm).symm
  have e2:Tr ops us G9 (dn listed) ops.size=Tr ops us G9 (Vt ops.size) ops.size:=by
   unfold Tr;refine AQn λt _=>OR _ _ λm hm _=> ?_
   rw[hall m hm];exact(decide_eq_true hm).symm
  rw[e1,e2] at I;exact hQ ν a w I
 intro fuel;induction fuel with
 | zero =>
   intro listed ν a w hl hc hf I;have hall : ∀j,j<ops.size->dn listed j=true:=λj hj=>AAS (by omega) hj
   refine⟨?_,fin hall I⟩;rw[List.eq_nil_iff_forall_not_mem];intro i hi;obtain⟨h1,h2,_⟩:=(U6 hl).1 hi;rw[hall i h1] at h2;cases h2
 | succ fuel ih =>
   intro listed ν a w hl hc hf I;refine⟨λhr=>fin (ABx hB hl hr) I,λi hi=> ?_⟩;obtain⟨hi,hD,hn'⟩:=(U6 hl).1 hi;obtain⟨o,ho⟩ : ∃o,ops[i]? =some o:=⟨_,AR6 hi⟩;have hn : ∀q∈needs ops i,dn listed q=true:=λq hq=>by
    have hlt:=(PJ hB hi).2.1 q hq;rw[<-qt hl (by omega)];exact hn' q hq
   have ALu:=AAT hB hN rec hc hi hn hD ho;have etm:=AEi hB hN rec hc hi hn hD ho;have ehp:=AEj hB hN rec hc hi hn hD ho;have hc':X7 ops (dn (listed.setIfInBounds i true)):=by
    rw[vS hl hi];intro j hj hd q hq;unfold also at hd ⊢;by_cases hqi:q=i
    · rw[if_pos hqi]
    · rw[if_neg hqi]
      by_cases hji:j=i
      · subst hji;exact hn q hq
      · rw[if_neg hji] at hd;exact hc j hj hd q hq
   have next : ∀(ν':Nat->Value) (v:Value) (w':World),Inv U0 ν' (Mr (Tq ops us JL (dn listed) ops.size) o.dst (us i).x) (PD o.dst (Tr ops us G9 (dn listed) ops.size) (us i).δ) w0 (a.put o.dst v) w'->wpAny P .any ops Q fuel (listed.setIfInBounds i true) (a.put o.dst v) w':=by
    intro ν' v w' I';refine ih _ ν' _ w' (by simp[hl]) hc' ?_ ?_
    · have:=jc hi hD
      rw[vS hl hi];omega
    · rw[vS hl hi,etm,ehp]
      exact I'
   unfold wpOp;rw[ho];rcases ALu with⟨h1,h2,h3,h4⟩ | ⟨h1,h2,h3,j,want,t,g1,g2,g3⟩
   · have hw:Region.wanted o (yielded ops a.tmps)=true:=by
      rcases h4 with h4 | ⟨j,want,t,b,g1,g2,g3,g4⟩
      · simp[Region.wanted,h4]
      · simp[Region.wanted,g1,U7 I g2 g3,g4]
     simp only[hw,if_true];refine .inl ?_;obtain⟨x',δ',e,hg⟩:=yY (K:=λx δ=> .done (x,δ)) hΘ hS I Z7 h1 (hst o (by
      have:=(AQo.1 ho).2;rw[<-this];simp))
     have e:some (x',δ')=some ((us i).x,(us i).δ):=e;injection e with e;injection e with e1 e2;subst e1 e2;exact hg h2 _ _ λν' v w' I'=>next ν' v w' I'
   · have hw : ¬Region.wanted o (yielded ops a.tmps)=true:=ck I g1 g2 g3
     simp only[hw,if_false];refine next ν undef w ?_
     rw[h1,h2];exact I.RE o.dst rfl
end
end
section
section
variable {P:Program} {Θ:Kb} {S:FuncId->Option FE} {k:Nat} {U0:Nat->Prop} {w0:St} {R:Type} {r:R} {ops:Array Oper} {B:List Nat} {us us':Nat->Out} {JL:List AV} {G9:List AB}
theorem YB {α:Type} {v v':Nat->Option α} {b:α} {D:Nat->Bool} : ∀ {n:Nat},(∀m,m<n->v m=v' m)->lw v b D n=lw v' b D n
 | 0,_=>rfl
 | n+1,h=>by
   have ih:lw v b D n=lw v' b D n:=YB λm hm=>h m (by omega)
   show(match D n,v n with
    | true,some x=>x
    | _,_=>lw v b D n)=(match D n,v' n with
    | true,some x=>x
    | _,_=>lw v' b D n)
   rw[h n (by omega),ih]
theorem mF {i:Nat} (h : ∀j,j<i->us j=us' j) {D:Nat->Bool} :Tq ops us JL D i=Tq ops us' JL D i:=by
 unfold Tq;exact AQn λt _=>YB λm hm=>by unfold wt;rw[h m hm]
theorem mG {i:Nat} (h : ∀j,j<i->us j=us' j) {D:Nat->Bool} :Tr ops us G9 D i=Tr ops us' G9 D i:=by
 unfold Tr;exact AQn λt _=>YB λm hm=>by unfold wh;rw[h m hm]
structure Part (Θ:Kb) (S:FuncId->Option FE) (k:Nat) (ops:Array Oper) (B:List Nat) (us:Nat->Out) (JL:List AV) (G9:List AB) (i:Nat) (rec:List (List Nat × List Nat)) (tm:List AV) (hp:List AB):Prop where
 rcd:rec=(List.range i).map λj=>((us j).ft,qD (J1 ops j) (us j).δ)
 comes : ∀j,j<i-> ∀o,ops[j]? =some o->mH Θ S k ops (Tq ops us JL (Vt j) j) (Tr ops us G9 (Vt j) j) o (us j)
 apart : ∀a b,a<i->b<i->a≠b->qu B a b=true\/ ∀q∈qD (J1 ops b) (us b).δ,q ∉ (us a).ft
 tm:tm=Tq ops us JL (Vt i) i
 hp:hp=Tr ops us G9 (Vt i) i
def ext (us:Nat->Out) (i:Nat) (u:Out) (j:Nat):Out:=if j=i then u else us j
theorem Part.more {i:Nat} {rec:List (List Nat × List Nat)} {tm:List AV} {hp:List AB} (p:Part Θ S k ops B us JL G9 i rec tm hp) {o:Oper} (ho:ops[i]? =some o) {u:Out} (hu:mH Θ S k ops tm hp o u)
 (hap : ∀x∈rec.zipIdx,(B.getD i 0).testBit x.2=true\/((∀q∈x.1.2,q ∉ u.ft)/\ ∀q∈qD o.dst u.δ,q ∉ x.1.1)) :
 Part Θ S k ops B (ext us i u) JL G9 (i+1) (rec++ [(u.ft,qD o.dst u.δ)]) (Mr tm o.dst u.x) (PD o.dst hp u.δ):=by
 have hd:J1 ops i=o.dst:=by unfold J1;rw[ho];rfl
 have same : ∀j,j<i->us j=(ext us i u) j:=λj hj=>by unfold ext;rw[if_neg (by omega)]
 have Nt : ∀j,j<i->(ext us i u) j=us j:=λj hj=>(same j hj).symm
 have jd:(ext us i u) i=u:=by unfold ext;rw[if_pos rfl]
 have AIv : ∀j,j<i->(((us j).ft,qD (J1 ops j) (us j).δ),j)∈rec.zipIdx:=λj hj=>by
  rw[p.rcd,List.mem_zipIdx_iff_getElem?];rw[ARl,ASD hj];rfl
 refine⟨?_,λj hj o' ho'=> ?_,λx y hx hy hxy=> ?_, ?_, ?_⟩
 · rw[ASl,AQu,p.rcd]
   congr 1
   · exact AQn λj hj=>by rw[Nt j (AQ7.1 hj)]
   · rw[List.map_singleton,jd,hd]
 · rcases AQS j i with hlt | hge
   · rw[<-mF (λq hq=>same q (by omega)),<-mG (λq hq=>same q (by omega)),Nt j hlt]
     exact p.comes j hlt o' ho'
   · obtain rfl:j=i:=by omega
     rw[ho] at ho';injection ho' with ho';subst ho';rw[<-mF same,<-mG same,jd,<-p.tm,<-p.hp];exact hu
 · rcases AQS x i with hx' | hx'<;>rcases AQS y i with hy' | hy'
   · rw[Nt x hx',Nt y hy']
     exact p.apart x y hx' hy' hxy
   · obtain rfl:y=i:=by omega
     rw[Nt x hx',jd,hd];rcases hap _ (AIv x hx') with h | h
     · left;unfold qu;rw[if_neg (by omega)];exact h
     · exact .inr h.2
   · obtain rfl:x=i:=by omega
     rw[Nt y hy',jd];rcases hap _ (AIv y hy') with h | h
     · left;unfold qu;rw[if_pos hy'];exact h
     · exact .inr h.1
   · omega
 · rw[AEk,jd,hd,<-mF same,<-p.tm]
 · rw[AEl,jd,hd,<-mG same,<-p.hp]
theorem PL {K:List AV->List AB->Tree R} : ∀(l:List Oper) (i:Nat) (us:Nat->Out) (rec:List (List Nat × List Nat)) (tm:List AV) (hp:List AB),ops.toList.drop i=l->Part Θ S k ops B us JL G9 i rec tm hp->i+l.length=ops.size->(U8 Θ S k ops B l i rec tm hp K).run=some r ->
 ∃us',mE Θ S k ops B us' JL G9 ops.size/\(K (Tq ops us' JL (Vt ops.size) ops.size) (Tr ops us' G9 (Vt ops.size) ops.size)).run=some r
 | [],i,us,rec,tm,hp,hl,p,hs,h=>by
   obtain rfl:i=ops.size:=by simpa using hs
   refine⟨us,⟨p.comes,p.apart⟩, ?_⟩;rw[<-p.tm,<-p.hp];exact h
 | o::rest,i,us,rec,tm,hp,hl,p,hs,h=>by
   have hi:i<ops.size:=(by simp at hs;omega);have ho:ops[i]? =some o:=by
    have:ops.toList[i]? =some o:=by
     have:=congrArg (·[0]?) hl;simpa[AQI] using this
    simpa using this
   have hl':ops.toList.drop (i+1)=rest:=by
    rw[<-ASS,hl];rfl
   have hs':i+1+rest.length=ops.size:=(by simp at hs;omega);have go:(stepT Θ S k tm hp o.dst o.op λx δ=>if(hok o.dst hp δ&&(rec.zipIdx.all λp=>(B.getD i 0).testBit p.2 || (p.1.2.all (λq=> !(fts tm o δ).contains q)&&(qD o.dst δ).all (λq=> !p.1.1.contains q))))=true then U8 Θ S k ops B rest (i+1) (rec++ [(fts tm o δ,qD o.dst δ)]) (Mr tm o.dst x) (PD o.dst hp δ) K else .non).run=some r ->
    (o.guard=none\/ ∃j want t b,o.guard=some (j,want)/\(ops[j]?).bind (·.dst)=some t/\AW tm (.tmp t)= .val [.ro .bool b]/\(b:Bool)=want) ->
    ∃us',mE Θ S k ops B us' JL G9 ops.size/\(K (Tq ops us' JL (Vt ops.size) ops.size) (Tr ops us' G9 (Vt ops.size) ops.size)).run=some r:=by
    intro h hg;rw[vT] at h;cases hst:step Θ S k tm hp o.dst o.op with
    | none=>rw[hst] at h;cases h
    | some q =>
      obtain⟨x,δ⟩:=q;rw[hst] at h;simp only[AQx] at h;split at h
      · rename_i hc
        simp only[APz,AQX,ARJ,ARG,ARP,decide_eq_false_iff_not] at hc;have p':=p.more ho (u:=⟨x,δ,fts tm o δ⟩) (.inl ⟨hst,hc.1,rfl,hg⟩) (λy hy=>hc.2 y hy);exact PL rest (i+1) _ _ _ _ hl' p' hs' h
      · cases h
   simp only[qw,ABn,qc,yV,qe,AEm] at h;split at h
   · rename_i hg
     exact go h (.inl hg)
   · rename_i j want hg
     split at h
     · rename_i t ht
       split at h
       · rename_i b hb
         rcases Tree.Mv h with⟨hw,h⟩ | ⟨hw,h⟩
         · exact go h (.inr ⟨j,want,t,b,hg,ht,hb,hw⟩)
         · have p':=p.more ho (u:=⟨.un,H0,[]⟩) (.inr ⟨rfl,rfl,rfl,j,want,t,hg,ht,(by rw[hb];exact hw)⟩) (λy hy=> .inr ⟨λq _ hq=>(by cases hq),λq hq=>(by cases hq)⟩)
           exact PL rest (i+1) _ _ _ _ hl' p' hs' h
       · rename_i hu
         have p':=p.more ho (u:=⟨.un,H0,[]⟩) (.inr ⟨rfl,rfl,rfl,j,want,t,hg,ht,(by rw[hu];trivial)⟩) (λy hy=> .inr ⟨λq _ hq=>(by cases hq),λq hq=>(by cases hq)⟩);exact PL rest (i+1) _ _ _ _ hl' p' hs' h
       · cases h
     · cases h
end
end
section
inductive CK where
 | ty (t:Ty)
 | own (q:Lq) (id:Nat) (e:TypeId) (t:Ty)
 | al (id:Nat)
 | ptr (j o:Nat)
 | Ia (j:Nat)
 | map (id:Nat)
@[reducible] def CT:List CK->Type
  | []=>Unit
  | .ty t::l=>T t × CT l
  | .own _ _ _ t::l=>List (T t) × CT l
  | .al _::l=>CT l
  | .ptr _ _::l=>CT l
  | .Ia _::l=>CT l
  | .map _::l=>List (Int × Int) × CT l
def U9 (hp:List AB):(fs:List CK)->List AC->Option (CT fs)
 | [],[]=>some ()
 | .ty t::l,cs=>match E6 hp t cs with
   | some (x,cs')=>match U9 hp l cs' with
     | some y=>some (x,y)
     | none=>none
   | none=>none
 | .own q _ _ _::l, .Bx::cs=>if q= .kept then none else match U9 hp l cs with
   | some y=>some ([],y)
   | none=>none
 | .own q id e t::l, .own j::cs=>match hp[j]? with
   | some (.row q' e' t' xs)=>if h:e'=e/\t'=t then(if q'=q/\(q= .kept->j=id) then(match U9 hp l cs with
     | some y=>h.2▸some (xs,y)
     | none=>none) else none) else none
   | _=>none
 | .al _::l, .Bx::cs=>U9 hp l cs
 | .al _::l, .own j::cs=>match hp[j]? with
   | some (.row _ _ _ _)=>U9 hp l cs
   | some (.map _)=>U9 hp l cs
   | _=>none
 | .map _::l, .own j::cs=>match hp[j]? with
   | some (.map xs)=>match U9 hp l cs with
     | some y=>some (xs,y)
     | none=>none
   | _=>none
 | .ptr j o::l, .ptr j' o'::cs=>if j'=j/\o'=o then U9 hp l cs else none
 | .Ia j::l, .Ia j'::cs=>if j'=j then U9 hp l cs else none
 | _,_=>none
def wrC:(fs:List CK)->CT fs->List AC
 | [],_=> []
 | .ty t::l,(x,y)=>X9 t x++wrC l y
 | .own _ id _ _::l,(_,y)=> .own id::wrC l y
 | .al id::l,x=> .own id::wrC l x
 | .ptr j o::l,x=> .ptr j o::wrC l x
 | .Ia j::l,x=> .Ia j::wrC l x
 | .map id::l,(_,y)=> .own id::wrC l y
def cm:(fs:List CK)->CT fs->List (Nat × AB)
 | [],_=> []
 | .ty _::l,(_,y)=>cm l y
 | .own q id e t::l,(x,y)=>(id, .row q e t x)::cm l y
 | .al _::l,x=>cm l x
 | .ptr _ _::l,x=>cm l x
 | .Ia _::l,x=>cm l x
 | .map id::l,(x,y)=>(id, .map x)::cm l y
def Tt:List CK->List AC->List (Nat × Option Nat)
 | .ty t::l,cs=>Tt l (cs.drop t.size)
 | .own _ id _ _::l, .own j::cs=>(id,some j)::Tt l cs
 | .own _ id _ _::l,_::cs=>(id,none)::Tt l cs
 | .map id::l, .own j::cs=>(id,some j)::Tt l cs
 | .map id::l,_::cs=>(id,none)::Tt l cs
 | .al _::l,_::cs=>Tt l cs
 | .ptr _ _::l,_::cs=>Tt l cs
 | .Ia _::l,_::cs=>Tt l cs
 | _,_=> []
def yZ:List CK->List AC->List (Nat × Option Nat)
 | .ty t::l,cs=>yZ l (cs.drop t.size)
 | .al id::l, .own j::cs=>(id,some j)::yZ l cs
 | .al id::l,_::cs=>(id,none)::yZ l cs
 | .own _ _ _ _::l,_::cs=>yZ l cs
 | .map _::l,_::cs=>yZ l cs
 | .ptr _ _::l,_::cs=>yZ l cs
 | .Ia _::l,_::cs=>yZ l cs
 | _,_=> []
def tyC:List CK->List AC->List AC
 | .ty t::l,cs=>cs.take t.size++tyC l (cs.drop t.size)
 | .own _ _ _ _::l,_::cs=>tyC l cs
 | .map _::l,_::cs=>tyC l cs
 | .al _::l,_::cs=>tyC l cs
 | .ptr _ _::l,_::cs=>tyC l cs
 | .Ia _::l,_::cs=>tyC l cs
 | _,_=> []
def AAU:List CK->List Nat
 | []=> []
 | .ptr j _::l=>j::AAU l
 | .Ia j::l=>j::AAU l
 | _::l=>AAU l
inductive Slot where
 | tmp (t:Tmp) (fs:List CK)
 | DO (j:Nat) (q:Lq) (e:TypeId) (fs:List CK)
 | arr (j:Nat) (e:TypeId) (t:Ty)
@[reducible] def TS:List Slot->Type
  | []=>Unit
  | .tmp _ fs::l=>CT fs × TS l
  | .DO _ _ _ fs::l=>CT fs × TS l
  | .arr _ _ t::l=>List (T t) × TS l
def F4 (tm:List AV) (hp:List AB):Slot->List AC
 | .tmp t _=>cellsOf (tm.getD t .Fm)
 | .DO j _ _ _=>match hp[j]? with
   | some (.cells _ _ cs)=>cs
   | _=> []
 | .arr _ _ _=> []
def AGB (hp:List AB) (j:Nat) (q:Lq) (e:TypeId):Bool:=match hp[j]? with
 | some (.cells q' e' _)=>q'==q&&e'==e
 | _=>false
def isVal (tm:List AV) (t:Tmp):Bool:=match tm.getD t .Fm with
 | .val _=>true
 | _=>false
def rdS (tm:List AV) (hp:List AB):(sl:List Slot)->Option (TS sl)
 | []=>some ()
 | .tmp t fs::l=>if isVal tm t=true then(match U9 hp fs (F4 tm hp (.tmp t fs)) with
   | some x=>match rdS tm hp l with
     | some y=>some (x,y)
     | none=>none
   | none=>none) else none
 | .DO j q e fs::l=>if AGB hp j q e=true then(match U9 hp fs (F4 tm hp (.DO j q e fs)) with
   | some x=>match rdS tm hp l with
     | some y=>some (x,y)
     | none=>none
   | none=>none) else none
 | .arr j e t::l=>match hp[j]? with
   | some (.row .mine e' t' xs)=>if h:e'=e/\t'=t then(match rdS tm hp l with
     | some y=>h.2▸some (xs,y)
     | none=>none) else none
   | _=>none
def wrT:(sl:List Slot)->TS sl->List AV->List AV
 | [],_,tm=>tm
 | .tmp t fs::l,(x,y),tm=>wrT l y (tm.set t (.val (wrC fs x)))
 | .DO _ _ _ _::l,(_,y),tm=>wrT l y tm
 | .arr _ _ _::l,(_,y),tm=>wrT l y tm
def blS:(sl:List Slot)->TS sl->List (Nat × AB)
 | [],_=> []
 | .tmp _ fs::l,(x,y)=>cm fs x++blS l y
 | .DO j q e fs::l,(x,y)=>(j, .cells q e (wrC fs x))::(cm fs x++blS l y)
 | .arr j e t::l,(x,y)=>(j, .row .mine e t x)::blS l y
def iF (tm:List AV) (hp:List AB):List Slot->List (Nat × Option Nat)
 | []=> []
 | .tmp t fs::l=>Tt fs (F4 tm hp (.tmp t fs))++iF tm hp l
 | .DO j q e fs::l=>(j,some j)::(Tt fs (F4 tm hp (.DO j q e fs))++iF tm hp l)
 | .arr j _ _::l=>(j,some j)::iF tm hp l
def alS (tm:List AV) (hp:List AB):List Slot->List (Nat × Option Nat)
 | []=> []
 | .tmp t fs::l=>yZ fs (F4 tm hp (.tmp t fs))++alS tm hp l
 | .DO j q e fs::l=>yZ fs (F4 tm hp (.DO j q e fs))++alS tm hp l
 | .arr _ _ _::l=>alS tm hp l
def vU (tm:List AV) (hp:List AB):List Slot->List AC
 | []=> []
 | .tmp t fs::l=>tyC fs (F4 tm hp (.tmp t fs))++vU tm hp l
 | .DO j q e fs::l=>tyC fs (F4 tm hp (.DO j q e fs))++vU tm hp l
 | .arr _ _ _::l=>vU tm hp l
def ABy:List Slot->List Nat
 | []=> []
 | .tmp _ fs::l=>AAU fs++ABy l
 | .DO _ _ _ fs::l=>AAU fs++ABy l
 | .arr _ _ _::l=>ABy l
def ABz:List Slot->List Nat
 | []=> []
 | .tmp _ _::l=>ABz l
 | .DO j _ _ _::l=>j::ABz l
 | .arr j _ _::l=>j::ABz l
def PM:List Nat->Bool
 | []=>true
 | a::l=> !l.contains a&&PM l
def srcs:List (Nat × Option Nat)->List Nat
 | []=> []
 | (_,some j)::l=>j::srcs l
 | (_,none)::l=>srcs l
def mI:List (Nat × Option Nat)->Nat->Option Nat
 | [],_=>none
 | (i,s)::l,j=>if i=j then s else mI l j
def AB0:List (Nat × Option Nat)->Nat->Option Nat->Bool
 | [],_,_=>false
 | (i,s)::l,j,u=>(i==j&&s==u) || AB0 l j u
structure CN where
 n:Nat
 m:Nat
 f:List Nat
def AIw (N:CN) (tm:List AV) (hp:List AB) (sl:List Slot):Bool :=
 (tm.length==N.n&&((alS tm hp sl).all λp=>AB0 (iF tm hp sl) p.1 p.2)&&(N.f.all λj=>AB0 (iF tm hp sl) j (some j)))&&PM ((iF tm hp sl).map (·.1))&&PM (srcs (iF tm hp sl))&&((iF tm hp sl).all λp=>decide (p.1<N.m))&&((ABy sl).all λj=>(ABz sl).contains j)
def AB1 {R:Type} (N:CN) (sl:List Slot) (g:Nat->TS sl->Option R) (k:Nat) (tm:List AV) (hp:List AB):Tree R :=
 AAO (Lc hp (vU tm hp sl)) hp λCH=>if AIw N tm CH sl=true then(match rdS tm CH sl with
  | some x=> .iE (g k x) .done
  | none=> .non) else .non
def qz (N:CN) (sl:List Slot) (x:TS sl):List AV:=wrT sl x (List.replicate N.n .Fm)
def VA (N:CN) (sl:List Slot) (x:TS sl):List AB:=De (blS sl x) (List.replicate N.m .gone)
section
variable {U0:Nat->Prop} {ν:Nat->Value} {tm:List AV} {hp:List AB} {w0:St} {w:World} {a:Act}
inductive Vw (hp:List AB) (ρ:Nat->Option Nat) (L':Nat->Prop):List AC->List AC->Prop where
 | nil:Vw hp ρ L' [] []
 | ty {t:Ty} {x:T t} {cs rest cs':List AC} (h:E6 hp t cs=some (x,rest)) (hf : ∀(j:Nat) (e:TypeId) (t':Ty) (xs:List (T t')),AC.own j∈cs.take t.size->hp[j]? ≠some (.row .mine e t' xs)) (hr:Vw hp ρ L' rest cs') (hd:rest=cs.drop t.size):Vw hp ρ L' cs (X9 t x++cs')
 | own {i j:Nat} {cs cs':List AC} (h:ρ i=some j) (hl:L' i) (hj:lv hp j) (hr:Vw hp ρ L' cs cs'):Vw hp ρ L' (.own j::cs) (.own i::cs')
 | Bx {i:Nat} {cs cs':List AC} (h:ρ i=none) (hl:L' i) (hr:Vw hp ρ L' cs cs'):Vw hp ρ L' (.Bx::cs) (.own i::cs')
 | ptr {j o:Nat} {cs cs':List AC} (h:ρ j=some j) (hl:L' j) (hr:Vw hp ρ L' cs cs'):Vw hp ρ L' (.ptr j o::cs) (.ptr j o::cs')
 | Ia {j:Nat} {cs cs':List AC} (h:ρ j=some j) (hl:L' j) (hr:Vw hp ρ L' cs cs'):Vw hp ρ L' (.Ia j::cs) (.Ia j::cs')
def VwB (hp:List AB) (ρ:Nat->Option Nat) (L':Nat->Prop) (i:Nat):AB->Prop
 | .row q e t xs=>(∃j,ρ i=some j/\hp[j]? =some (.row q e t xs))\/(ρ i=none/\xs= [])
 | .cells q e cs'=> ∃j cs,ρ i=some j/\hp[j]? =some (.cells q e cs)/\Vw hp ρ L' cs cs'
 | .map xs=> ∃j,ρ i=some j/\hp[j]? =some (.map xs)
 | _=>False
def seen (ν:Nat->Value) (ρ:Nat->Option Nat) (i:Nat):Value:=match ρ i with
 | some j=>ν j
 | none=> .slice none 0 0
theorem Inv.view (I:Inv U0 ν tm hp w0 a w) (hU : ∀k,U0 k->k<w0.heap.size) {ρ:Nat->Option Nat} {FO:List AV} {CH:List AB} (h1:FO.length=tm.length)
 (h2 : ∀i x',FO[i]? =some x'->x'= .Fm\/ ∃cs cs',tm.getD i .Fm= .val cs/\x'= .val cs'/\Vw hp ρ (lv CH) cs cs')
 (h3 : ∀i b',CH[i]? =some b'->Ej b'=false->VwB hp ρ (lv CH) i b')
 (h4 : ∀i i' j,i≠i'->lv CH i->lv CH i'->ρ i=some j->ρ i'≠some j) (h5 : ∀p∈w0.fx,ρ p.1=some p.1/\ ∃b',CH[p.1]? =some b'/\RD b'=true):Inv U0 (seen ν ρ) FO CH w0 a w:=by
 have hsome : ∀ {i j:Nat},ρ i=some j->seen ν ρ i=ν j:=λh=>by unfold seen;rw[h]
 have hnone : ∀ {i:Nat},ρ i=none->seen ν ρ i= .slice none 0 0:=λh=>by unfold seen;rw[h]
 have AB2 : ∀ {i j:Nat},lv CH i->ρ i=some j->lv hp j:=λ{i j} ⟨b',q1,q2⟩ hr=>by
  have:=h3 i b' q1 q2;cases b' with
  | row q e t xs =>
    rcases this with⟨j',e1,e2⟩ | ⟨e1,_⟩
    · rw[hr] at e1;injection e1 with e1;subst e1;exact⟨_,e2,rfl⟩
    · rw[hr] at e1;cases e1
  | cells q e cs =>
    obtain⟨j',cs0,e1,e2,_⟩:=this;rw[hr] at e1;injection e1 with e1;subst e1;exact⟨_,e2,rfl⟩
  | map xs =>
    obtain⟨j',e1,e2⟩:=this;rw[hr] at e1;injection e1 with e1;subst e1;exact⟨_,e2,rfl⟩
  | _=>exact this.elim
 have hun : ∀k,Un U0 (seen ν ρ) (lv CH) k->Un U0 ν (lv hp) k:=λk h=>by
  rcases h with h | ⟨i,hi,hb⟩
  · exact .inl h
  · cases hr:ρ i with
    | none=>rw[hnone hr] at hb;cases hb
    | some j=>rw[hsome hr] at hb;exact .inr ⟨j,AB2 hi hr,hb⟩
 have mv:Move (Un U0 ν (lv hp)) w w (Un U0 (seen ν ρ) (lv CH)):=⟨AP1 _,λ_ _ _=>rfl,λk _ h=>hun k h⟩;have cells : ∀ {cs cs':List AC},Vw hp ρ (lv CH) cs cs'-> ∀ {vs:List Value},CZ (Cw U0 ν (lv hp) w) cs vs->CZ (Cw U0 (seen ν ρ) (lv CH) w) cs' vs:=by
  intro cs cs' h;induction h with
  | nil=>intro vs hr;cases vs with
    | nil=>trivial
    | cons _ _=>exact hr.elim
  | @ty t x cs rest cs' ht hf hr hd ih =>
    intro vs hvs;obtain⟨q1,q2⟩:=cq I (U:=Un U0 (seen ν ρ) (lv CH)) (λk _ h=>hun k h) (λj e' t' xs hj hb=>absurd hb (hf j e' t' xs hj)) ht hvs;have:=(HY t x q1).app (ih q2);rw[ARM] at this;exact this
  | @own i j cs cs' hρ hl hj hr ih =>
    intro vs hvs
    match vs,hvs with
    | v::vs,hvs=>exact⟨⟨hl,by rw[hsome hρ];exact hvs.1.2⟩,ih hvs.2⟩
    | [],hvs=>exact hvs.elim
  | @Bx i cs cs' hρ hl hr ih =>
    intro vs hvs
    match vs,hvs with
    | v::vs,hvs=>exact⟨⟨hl,by rw[hnone hρ];exact hvs.1⟩,ih hvs.2⟩
    | [],hvs=>exact hvs.elim
  | @ptr j o cs cs' hρ hl hr ih =>
    intro vs hvs
    match vs,hvs with
    | v::vs,hvs =>
      obtain⟨⟨_,g,e1,e2⟩,AHL⟩:=hvs;exact⟨⟨hl,g,by rw[hsome hρ];exact e1,e2⟩,ih AHL⟩
    | [],hvs=>exact hvs.elim
  | @Ia j cs cs' hρ hl hr ih =>
    intro vs hvs
    match vs,hvs with
    | v::vs,hvs =>
      obtain⟨⟨_,g,n,c,e1,e2⟩,AHL⟩:=hvs;exact⟨⟨hl,g,n,c,by rw[hsome hρ];exact e1,e2⟩,ih AHL⟩
    | [],hvs=>exact hvs.elim
 refine⟨I.size.trans h1.symm,λi x' hx=> ?_,λi b' q1 q2=> ?_,λi i' hii hi hi' k hk hk'=> ?_,I.fr,λp hp=>⟨(hsome (h5 p hp).1).trans (I.fx p hp).1,(h5 p hp).2⟩,I.defers⟩
 · rcases h2 i x' hx with rfl | ⟨cs,cs',e1,rfl,hv⟩
   · trivial
   · have hl:i<tm.length:=by rw[<-h1];exact(APw.1 hx).1
     have hti:tm[i]? =some (.val cs):=by
      rw[APt,AP4 hl] at e1;rw[AP4 hl];exact congrArg some e1
     obtain⟨vs,q1,q2⟩:=I.tm i _ hti;exact⟨vs,q1,cells hv q2⟩
 · have:=h3 i b' q1 q2
   cases b' with
   | row q e t xs =>
     rcases this with⟨j,e1,e2⟩ | ⟨e1,e2⟩
     · have hB:=I.mem j _ e2 rfl
       obtain⟨⟨inner,z1,z2⟩,z3⟩:=hB;exact⟨⟨inner,by rw[hsome e1];exact z1,z2.HW λ_ _ z=>z.move mv⟩,λk hk=>z3 k (by rw[hsome e1] at hk;exact hk)⟩
     · subst e2
       exact⟨⟨[],by rw[hnone e1];exact World.ownsRow_nil w _ _ _,Bw.none _ _⟩,λk hk=>by rw[hnone e1] at hk;cases hk⟩
   | cells q e cs' =>
     obtain⟨j,cs,e1,e2,hv⟩:=this;obtain⟨g,vs,z1,z2,z3,z4⟩:=I.mem j _ e2 rfl;exact⟨g,vs,by rw[hsome e1];exact z1,z2,z3,cells hv z4⟩
   | map xs =>
     obtain⟨j,e1,e2⟩:=this;obtain⟨g,es,c,z1,z2,z3,z4⟩:=I.mem j _ e2 rfl;exact⟨g,es,c,by rw[hsome e1];exact z1,z2,z3,z4⟩
   | _=>exact this.elim
 · cases hr:ρ i with
   | none=>rw[hnone hr] at hk;cases hk
   | some j =>
     cases hr':ρ i' with
     | none=>rw[hnone hr'] at hk';cases hk'
     | some j' =>
       rw[hsome hr] at hk;rw[hsome hr'] at hk';have hne:j≠j':=λe=>h4 i i' j hii hi hi' hr (e▸hr')
       exact I.uo j j' hne (AB2 hi hr) (AB2 hi' hr') k hk hk'
theorem je {l:List Nat} {a:Nat} :PM (a::l)=true->a ∉ l/\PM l=true:=by
 intro h;simp only[PM,APz,ARG,ARP,decide_eq_false_iff_not] at h;exact h
theorem q8 : ∀ {l:List (Nat × Option Nat)},PM (l.map (·.1))=true-> ∀p∈l,mI l p.1=p.2
 | (i,s)::l,h,p,hp=>by
   obtain⟨h1,h2⟩:=je h;rcases APv.1 hp with rfl | hp
   · simp[mI]
   · have:i≠p.1:=λe=>h1 (e▸AQY.2 ⟨p,hp,rfl⟩)
     simp only[mI,if_neg this];exact q8 h2 p hp
theorem V9 : ∀ {l:List (Nat × Option Nat)} {i j:Nat},(i,some j)∈l->j∈srcs l
 | (a,s)::l,i,j,h=>by
   rcases APv.1 h with e | h'
   · injection e with _ e2
     subst e2;exact APq
   · cases s with
     | none=>exact V9 (l:=l) h'
     | some k=>exact APp _ (V9 (l:=l) h')
theorem cr : ∀ {l:List (Nat × Option Nat)},PM (srcs l)=true-> ∀ {i i' j:Nat},(i,some j)∈l->(i',some j)∈l->i=i'
 | (a,none)::l,h,i,i',j,h1,h2=>by
   have h1:=(APv.1 h1).resolve_left (λe=>by cases e);have h2:=(APv.1 h2).resolve_left (λe=>by cases e);exact cr (l:=l) h h1 h2
 | (a,some k)::l,h,i,i',j,h1,h2=>by
   obtain⟨hk,hl⟩:=je (show PM (k::srcs l)=true from h);rcases APv.1 h1 with e1 | g1<;>rcases APv.1 h2 with e2 | g2
   · injection e1 with e1 _;injection e2 with e2 _;rw[e1,e2]
   · injection e1 with _ e1;injection e1 with e1;subst e1;exact absurd (V9 (l:=l) g2) hk
   · injection e2 with _ e2;injection e2 with e2;subst e2;exact absurd (V9 (l:=l) g1) hk
   · exact cr hl g1 g2
theorem ME {ρ:Nat->Option Nat} {L':Nat->Prop} : ∀ {fs:List CK} {cs:List AC} {x:CT fs},U9 hp fs cs=some x->(∀p∈Tt fs cs,ρ p.1=p.2/\L' p.1)->(∀p∈yZ fs cs,ρ p.1=p.2/\L' p.1)->(∀j∈AAU fs,ρ j=some j/\L' j)->(∀j e t xs,AC.own j∈tyC fs cs->hp[j]? ≠some (.row .mine e t xs)) ->
 Vw hp ρ L' cs (wrC fs x)/\(∀p∈cm fs x,VwB hp ρ L' p.1 p.2/\Ej p.2=false/\ ∃s,(p.1,s)∈Tt fs cs)/\ ∀p∈Tt fs cs,∃b,(p.1,b)∈cm fs x
 | [],[],x,h,_,_,_,_=>⟨.nil,λp hp=>by simp[cm] at hp,λp hp=>by simp[Tt] at hp⟩
 | [],_::_,x,h,_,_,_,_=>by simp[U9] at h
 | .ty t::l,cs,x,h,h1,hA,h2,h3=>by
   simp only[U9] at h;split at h
   · rename_i x1 cs1 hx
     split at h
     · rename_i y hy
       injection h with h;subst h;obtain⟨hd,_⟩:=Ke hx;have hd':=hd;subst hd;obtain⟨q1,q2,q3⟩:=ME hy (λp hp=>h1 p (by simpa[Tt] using hp)) (λp hp=>hA p (by simpa[yZ] using hp)) h2 (λj e t' xs hj=>h3 j e t' xs (APu _ hj));exact⟨.ty hx (λj e t' xs hj=>h3 j e t' xs (APy _ hj)) q1 rfl,by simpa[cm,Tt] using q2,by simpa[cm,Tt] using q3⟩
     · cases h
   · cases h
 | .own _ id e t::l,[],x,h,_,_,_,_=>by simp[U9] at h
 | .al id::l,[],x,h,_,_,_,_=>by simp[U9] at h
 | .ptr j o::l,[],x,h,_,_,_,_=>by simp[U9] at h
 | .Ia j::l,[],x,h,_,_,_,_=>by simp[U9] at h
 | .map j::l,[],x,h,_,_,_,_=>by simp[U9] at h
 | .own lq id e t::l,c::cs,x,h,h1,hA,h2,h3=>by
   cases c with
   | Bx =>
     simp only[U9] at h;split at h
     · cases h
     split at h
     · rename_i y hy
       injection h with h;subst h;obtain⟨q1,q2,q3⟩:=ME hy (λp hp=>h1 p (APp _ hp)) hA h2 h3;have hh:=h1 (id,none) APq;refine⟨.Bx hh.1 hh.2 q1,λp hp=> ?_,λp hp=> ?_⟩
       · rcases APv.1 hp with rfl | hp
         · exact⟨.inr ⟨hh.1,rfl⟩,rfl,none,APq⟩
         · obtain⟨z1,z2,s,z3⟩:=q2 p hp
           exact⟨z1,z2,s,APp _ z3⟩
       · rcases APv.1 hp with rfl | hp
         · exact⟨_,APq⟩
         · obtain⟨b,z⟩:=q3 p hp
           exact⟨b,APp _ z⟩
     · cases h
   | own j =>
     simp only[U9] at h;split at h
     · rename_i lq' e' t' xs hb
       split at h
       · rename_i q
         obtain⟨rfl,rfl⟩:=q;split at h;rotate_left
         · cases h
         rename_i q;obtain⟨rfl,_⟩:=q;split at h
         · rename_i y hy
           injection h with h;subst h;obtain⟨q1,q2,q3⟩:=ME hy (λp hp=>h1 p (APp _ hp)) hA h2 h3;have hh:=h1 (id,some j) APq;refine⟨.own hh.1 hh.2 ⟨_,hb,rfl⟩ q1,λp hp=> ?_,λp hp=> ?_⟩
           · rcases APv.1 hp with rfl | hp
             · exact⟨.inl ⟨j,hh.1,hb⟩,rfl,_,APq⟩
             · obtain⟨z1,z2,s,z3⟩:=q2 p hp
               exact⟨z1,z2,s,APp _ z3⟩
           · rcases APv.1 hp with rfl | hp
             · exact⟨_,APq⟩
             · obtain⟨b,z⟩:=q3 p hp
               exact⟨b,APp _ z⟩
         · cases h
       · cases h
     · cases h
   | _=>simp[U9] at h
 | .al id::l,c::cs,x,h,h1,hA,h2,h3=>by
   cases c with
   | Bx =>
     simp only[U9] at h;obtain⟨q1,q2,q3⟩:=ME h (λp hp=>h1 p (by simpa[Tt] using hp)) (λp hp=>hA p (APp _ hp)) h2 h3;have hh:=hA (id,none) APq;exact⟨.Bx hh.1 hh.2 q1,by simpa[cm,Tt] using q2,by simpa[cm,Tt] using q3⟩
   | own j =>
     simp only[U9] at h;split at h
     · rename_i lq e' t' xs hb
       obtain⟨q1,q2,q3⟩:=ME h (λp hp=>h1 p (by simpa[Tt] using hp)) (λp hp=>hA p (APp _ hp)) h2 h3;have hh:=hA (id,some j) APq;exact⟨.own hh.1 hh.2 ⟨_,hb,rfl⟩ q1,by simpa[cm,Tt] using q2,by simpa[cm,Tt] using q3⟩
     · rename_i xs hb
       obtain⟨q1,q2,q3⟩:=ME h (λp hp=>h1 p (by simpa[Tt] using hp)) (λp hp=>hA p (APp _ hp)) h2 h3;have hh:=hA (id,some j) APq;exact⟨.own hh.1 hh.2 ⟨_,hb,rfl⟩ q1,by simpa[cm,Tt] using q2,by simpa[cm,Tt] using q3⟩
     · cases h
   | _=>simp[U9] at h
 | .map id::l,c::cs,x,h,h1,hA,h2,h3=>by
   cases c with
   | own j =>
     simp only[U9] at h;split at h
     · rename_i xs hb
       split at h
       · rename_i y hy
         injection h with h;subst h;obtain⟨q1,q2,q3⟩:=ME hy (λp hp=>h1 p (APp _ hp)) (λp hp=>hA p (by simpa[yZ] using hp)) h2 h3;have hh:=h1 (id,some j) APq;refine⟨.own hh.1 hh.2 ⟨_,hb,rfl⟩ q1,λp hp=> ?_,λp hp=> ?_⟩
         · rcases APv.1 hp with rfl | hp
           · exact⟨⟨j,hh.1,hb⟩,rfl,_,APq⟩
           · obtain⟨z1,z2,s,z3⟩:=q2 p hp
             exact⟨z1,z2,s,APp _ z3⟩
         · rcases APv.1 hp with rfl | hp
           · exact⟨_,APq⟩
           · obtain⟨b,z⟩:=q3 p hp
             exact⟨b,APp _ z⟩
       · cases h
     · cases h
   | _=>simp[U9] at h
 | .Ia j::l,c::cs,x,h,h1,hA,h2,h3=>by
   cases c with
   | Ia j' =>
     simp only[U9] at h;split at h
     · rename_i q
       subst q;obtain⟨q1,q2,q3⟩:=ME h (λp hp=>h1 p (by simpa[Tt] using hp)) (λp hp=>hA p (by simpa[yZ] using hp)) (λj hj=>h2 j (APp _ hj)) h3;have hh:=h2 _ APq;exact⟨.Ia hh.1 hh.2 q1,by simpa[cm,Tt] using q2,by simpa[cm,Tt] using q3⟩
     · cases h
   | _=>simp[U9] at h
 | .ptr j o::l,c::cs,x,h,h1,hA,h2,h3=>by
   cases c with
   | ptr j' o' =>
     simp only[U9] at h;split at h
     · rename_i q
       obtain⟨rfl,rfl⟩:=q;obtain⟨q1,q2,q3⟩:=ME h (λp hp=>h1 p (by simpa[Tt] using hp)) (λp hp=>hA p (by simpa[yZ] using hp)) (λj hj=>h2 j (APp _ hj)) h3;have hh:=h2 _ APq;exact⟨.ptr hh.1 hh.2 q1,by simpa[cm,Tt] using q2,by simpa[cm,Tt] using q3⟩
     · cases h
   | _=>simp[U9] at h
theorem cu {ρ:Nat->Option Nat} {L':Nat->Prop} : ∀ {sl:List Slot} {x:TS sl},rdS tm hp sl=some x->(∀p∈iF tm hp sl,ρ p.1=p.2/\L' p.1)->(∀p∈alS tm hp sl,ρ p.1=p.2/\L' p.1)->(∀j∈ABy sl,ρ j=some j/\L' j)->(∀j e t xs,AC.own j∈vU tm hp sl->hp[j]? ≠some (.row .mine e t xs)) ->
 (∀tm1:List AV,(∀i x',tm1[i]? =some x'->x'= .Fm\/ ∃cs cs',tm.getD i .Fm= .val cs/\x'= .val cs'/\Vw hp ρ L' cs cs')-> ∀i x',(wrT sl x tm1)[i]? =some x'->x'= .Fm\/ ∃cs cs',tm.getD i .Fm= .val cs/\x'= .val cs'/\Vw hp ρ L' cs cs') /\
   (∀p∈blS sl x,VwB hp ρ L' p.1 p.2/\Ej p.2=false/\ ∃s,(p.1,s)∈iF tm hp sl)/\ ∀p∈iF tm hp sl,∃b,(p.1,b)∈blS sl x
 | [],x,h,_,_,_,_=>⟨λ_ h=>h,λp hp=>by simp[blS] at hp,λp hp=>by simp[iF] at hp⟩
 | .tmp t fs::l,x,h,h1,hA,h2,h3=>by
   simp only[rdS] at h;split at h
   · rename_i hv
     split at h
     · rename_i x1 hx
       split at h
       · rename_i y hy
         injection h with h;subst h;obtain⟨q1,q2,q3⟩:=ME hx (λp hp=>h1 p (APy _ hp)) (λp hp=>hA p (APy _ hp)) (λj hj=>h2 j (APy _ hj)) (λj e t xs hj=>h3 j e t xs (APy _ hj));obtain⟨z1,z2,z3⟩:=cu hy (λp hp=>h1 p (APu _ hp)) (λp hp=>hA p (APu _ hp)) (λj hj=>h2 j (APu _ hj)) (λj e t xs hj=>h3 j e t xs (APu _ hj));refine⟨λtm1 ht=>z1 _ λi x' hi=> ?_,λp hp=> ?_,λp hp=> ?_⟩
         · rw[AR0] at hi
           split at hi
           · rename_i e
             subst e;split at hi
             · injection hi with hi
               subst hi;unfold isVal at hv;split at hv
               · rename_i cs hc
                 refine .inr ⟨cs,_,hc,rfl, ?_⟩;have:F4 tm hp (.tmp t fs)=cs:=(by simp only[F4,hc,cellsOf]);rw[this] at q1;exact q1
               · cases hv
             · cases hi
           · exact ht i x' hi
         · rcases AQM.1 hp with hp | hp
           · obtain⟨y1,y2,s,y3⟩:=q2 p hp
             exact⟨y1,y2,s,APy _ y3⟩
           · obtain⟨y1,y2,s,y3⟩:=z2 p hp
             exact⟨y1,y2,s,APu _ y3⟩
         · rcases AQM.1 hp with hp | hp
           · obtain⟨b,y⟩:=q3 p hp
             exact⟨b,APy _ y⟩
           · obtain⟨b,y⟩:=z3 p hp
             exact⟨b,APu _ y⟩
       · cases h
     · cases h
   · cases h
 | .arr j e t::l,x,h,h1,hA,h2,h3=>by
   simp only[rdS] at h;split at h
   · rename_i e' t' xs hb
     split at h
     · rename_i q
       obtain⟨rfl,rfl⟩:=q;split at h
       · rename_i y hy
         injection h with h;subst h;obtain⟨z1,z2,z3⟩:=cu hy (λp hp=>h1 p (APp _ hp)) hA (λi hi=>h2 i hi) h3;have hj:=h1 (j,some j) APq;refine⟨z1,λp hp=> ?_,λp hp=> ?_⟩
         · rcases APv.1 hp with rfl | hp
           · exact⟨.inl ⟨j,hj.1,hb⟩,rfl,some j,APq⟩
           · obtain⟨y1,y2,s,y3⟩:=z2 p hp
             exact⟨y1,y2,s,APp _ y3⟩
         · rcases APv.1 hp with rfl | hp
           · exact⟨_,APq⟩
           · obtain⟨b,y⟩:=z3 p hp
             exact⟨b,APp _ y⟩
       · cases h
     · cases h
   · cases h
 | .DO j lq e fs::l,x,h,h1,hA,h2,h3=>by
   simp only[rdS] at h;split at h
   · rename_i hv
     split at h
     · rename_i x1 hx
       split at h
       · rename_i y hy
         injection h with h;subst h;have h1' : ∀p∈Tt fs (F4 tm hp (.DO j lq e fs))++iF tm hp l,ρ p.1=p.2/\L' p.1:=λp hp=>h1 p (APp _ hp)
         obtain⟨q1,q2,q3⟩:=ME hx (λp hp=>h1' p (APy _ hp)) (λp hp=>hA p (APy _ hp)) (λj hj=>h2 j (APy _ hj)) (λj e t xs hj=>h3 j e t xs (APy _ hj));obtain⟨z1,z2,z3⟩:=cu hy (λp hp=>h1' p (APu _ hp)) (λp hp=>hA p (APu _ hp)) (λj hj=>h2 j (APu _ hj)) (λj e t xs hj=>h3 j e t xs (APu _ hj));have hj:=h1 (j,some j) APq;refine⟨λtm1 ht=>z1 tm1 ht,λp hp=> ?_,λp hp=> ?_⟩
         · rcases APv.1 hp with rfl | hp
           · clear hp
             refine⟨?_,rfl,some j,APq⟩;unfold AGB at hv;split at hv
             · rename_i lq' e' cs hb
               obtain⟨rfl,rfl⟩:lq'=lq/\e'=e:=by simpa using hv
               have:F4 tm hp (.DO j lq' e' fs)=cs:=(by simp only[F4,hb]);rw[this] at q1;exact⟨j,cs,hj.1,hb,q1⟩
             · cases hv
           · rcases AQM.1 hp with hp | hp
             · obtain⟨y1,y2,s,y3⟩:=q2 p hp
               exact⟨y1,y2,s,APp _ (APy _ y3)⟩
             · obtain⟨y1,y2,s,y3⟩:=z2 p hp
               exact⟨y1,y2,s,APp _ (APu _ y3)⟩
         · rcases APv.1 hp with rfl | hp
           · exact⟨_,APq⟩
           · rcases AQM.1 hp with hp | hp
             · obtain⟨b,y⟩:=q3 p hp
               exact⟨b,APp _ (APy _ y)⟩
             · obtain⟨b,y⟩:=z3 p hp
               exact⟨b,APp _ (APu _ y)⟩
       · cases h
     · cases h
   · cases h
theorem cv : ∀ {l:List (Nat × AB)} {i:Nat} {b:AB},qE l i=some b->(i,b)∈l
 | (j,c)::l,i,b,h=>by
   unfold qE at h;split at h
   · rename_i e;injection h with h;subst e h;exact APq
   · exact APp _ (cv h)
theorem q9 : ∀ {l:List (Nat × AB)} {i:Nat} {b:AB},(i,b)∈l-> ∃c,qE l i=some c
 | (j,c)::l,i,b,h=>by
   unfold qE;by_cases e:j=i
   · exact⟨c,if_pos e⟩
   · rw[if_neg e]
     exact q9 ((APv.1 h).resolve_left λz=>e (by injection z with z _;exact z.symm))
theorem az : ∀ {sl:List Slot} {x:TS sl} {tm:List AV},(wrT sl x tm).length=tm.length
 | [],_,_=>rfl
 | .tmp t fs::l,(x,y),tm=>by simp only[wrT,az (sl:=l),AQb]
 | .DO _ _ _ _::l,(x,y),tm=>az (sl:=l)
 | .arr _ _ _::l,(x,y),tm=>az (sl:=l)
theorem Yy {l:List (Nat × AB)} (h:Nv hp l) (s:Slot):F4 tm (De l hp) s=F4 tm hp s:=by
 cases s with
 | tmp t fs=>rfl
 | arr j e t=>rfl
 | DO j lq e fs =>
   simp only[F4];rcases F5 h j with q | ⟨e',t',xs',q1,q2,_⟩
   · rw[q]
   · rw[q1,q2]
theorem bC {l:List (Nat × AB)} (h:Nv hp l) : ∀(sl:List Slot),vU tm (De l hp) sl=vU tm hp sl
 | []=>rfl
 | .tmp t fs::sl=>by simp only[vU,Yy h,bC h sl]
 | .DO j lq e fs::sl=>by simp only[vU,Yy h,bC h sl]
 | .arr j e t::sl=>by simp only[vU,bC h sl]
theorem TE : ∀ {sl:List Slot} {j:Nat},j∈ABz sl->(j,some j)∈iF tm hp sl
 | .tmp t fs::l,j,h=>APu _ (TE (sl:=l) h)
 | .DO i lq e fs::l,j,h=>by
   rcases APv.1 h with rfl | h
   · exact APq
   · exact APp _ (APu _ (TE h))
 | .arr i e t::l,j,h=>by
   rcases APv.1 h with rfl | h
   · exact APq
   · exact APp _ (TE h)
theorem RH : ∀ {l:List (Nat × Option Nat)} {j:Nat} {u:Option Nat},AB0 l j u=true->(j,u)∈l
 | (i,s)::l,j,u,h=>by
   simp only[AB0,ARJ,APz,beq_iff_eq] at h;rcases h with⟨rfl,rfl⟩ | h
   · exact APq
   · exact APp _ (RH h)
theorem Inv.cut (I:Inv U0 ν tm hp w0 a w) (hU : ∀k,U0 k->k<w0.heap.size) {R:Type} {r:R} {N:CN} {k:Nat} {sl:List Slot} {g:Nat->TS sl->Option R} (hF : ∀p∈w0.fx,p.1∈N.f) (h:(AB1 N sl g k tm hp).run=some r) : ∃x ν',g k x=some r/\Inv U0 ν' (qz N sl x) (VA N sl x) w0 a w:=by
 unfold AB1 at h;rw[l8] at h;split at h
 · rename_i hfit
   split at h
   · rename_i x hx
     obtain⟨y,hy,he⟩:=Tree.TC h;have he:some y=some r:=he;injection he with he;subst he;have hfz:=LQ (hp:=hp) (vU tm hp sl);obtain⟨ν',I'⟩:=I.Iy hU hfz;generalize hhp:De (Lc hp (vU tm hp sl)) hp=CH at *;simp only[AIw,APz,beq_iff_eq,AQX,decide_eq_true_eq,ARP] at hfit;obtain⟨⟨⟨⟨⟨⟨f1,f6⟩,f7⟩,f2⟩,f3⟩,f4⟩,f5⟩:=hfit;have hno : ∀j e t xs,AC.own j∈vU tm CH sl->CH[j]? ≠some (.row .mine e t xs):=λj e t xs hj hb=>by
      have hj':AC.own j∈vU tm hp sl:=(by rw[<-hhp,bC hfz] at hj;exact hj);have hi:Jw (Lc hp (vU tm hp sl)) j=true:=by
       rcases F5 hfz j with q | ⟨e',t',xs',q1,q2,q3⟩
       · rw[hhp,hb] at q
         exact Nw hj' q.symm
       · exact q3
      obtain⟨_,_,_,z⟩:=mJ hfz hi;rw[hhp,hb] at z;cases z
     have hro:=q8 f2;have hcut : ∀i,i<N.m->(VA N sl x)[i]? =some (match qE (blS sl x) i with
      | some b=>b
      | none=> .gone):=λi hi=>by
      unfold VA;rw[cw (by simpa using hi)];cases qE (blS sl x) i with
      | some b=>rfl
      | none=>simp[APt,hi]
     have hge : ∀i,N.m<=i->(VA N sl x)[i]? =none:=λi hi=>AQO (by unfold VA;rw[WA];simpa using hi)
     obtain⟨_,b1,b2⟩:=cu (ρ:=mI (iF tm CH sl)) (L':=λ_=>True) hx (λp hp=>⟨hro p hp,trivial⟩) (λp hp=>⟨hro p (RH (f6 p hp)),trivial⟩) (λj hj=>⟨hro (j,some j) (TE (f5 j hj)),trivial⟩) hno;have hlv : ∀p∈iF tm CH sl,lv (VA N sl x) p.1:=λp hp=>by
      obtain⟨b,hb⟩:=b2 p hp;obtain⟨c,hc⟩:=q9 hb;refine⟨c,by rw[hcut p.1 (f4 p hp),hc],(b1 (p.1,c) (cv hc)).2.1⟩
     obtain⟨c0,c1,c2⟩:=cu (ρ:=mI (iF tm CH sl)) (L':=lv (VA N sl x)) hx (λp hp=>⟨hro p hp,hlv p hp⟩) (λp hp=>⟨hro p (RH (f6 p hp)),hlv p (RH (f6 p hp))⟩) (λj hj=>⟨hro (j,some j) (TE (f5 j hj)),hlv (j,some j) (TE (f5 j hj))⟩) hno;have hin : ∀i,lv (VA N sl x) i-> ∃s,(i,s)∈iF tm CH sl:=λi ⟨b,h1,h2⟩=>by
      rcases AQS i N.m with hi | hi
      · rw[hcut i hi] at h1
        cases hc:qE (blS sl x) i with
        | none=>rw[hc] at h1;injection h1 with h1;subst h1;cases h2
        | some c=>exact(c1 (i,c) (cv hc)).2.2
      · rw[hge i hi] at h1;cases h1
     refine⟨x,seen ν' (mI (iF tm CH sl)),hy,I'.view hU (by unfold qz;rw[az];simp[f1]) (λi x' hi=> ?_) (λi b' h1 h2=> ?_) (λi i' j hii hi hi' h1 h2=> ?_) (λp hp=> ?_)⟩
     · refine c0 _ (λi x' hi=> .inl ?_) i x' hi
       rw[ARA] at hi;split at hi
       · injection hi with hi;exact hi.symm
       · cases hi
     · rcases AQS i N.m with hi | hi
       · rw[hcut i hi] at h1
         cases hc:qE (blS sl x) i with
         | none=>rw[hc] at h1;injection h1 with h1;subst h1;cases h2
         | some c =>
           rw[hc] at h1;injection h1 with h1;subst h1;exact(c1 (i,c) (cv hc)).1
       · rw[hge i hi] at h1;cases h1
     · obtain⟨s,hs⟩:=hin i hi
       obtain⟨s',hs'⟩:=hin i' hi';have e1:=hro _ hs;have e2:=hro _ hs';rw[h1] at e1;rw[h2] at e2;have e1:some j=s:=e1;have e2:some j=s':=e2;subst e1 e2;exact hii (cr f3 hs hs')
     · have hr:=RH (f7 p.1 (hF p hp))
       have e1:=hro _ hr;obtain⟨b',h1,h2⟩:=hlv _ hr;refine⟨e1,b',h1, ?_⟩;obtain⟨_,b0,z1,z2⟩:=I'.fx p hp;have hv:VwB CH (mI (iF tm CH sl)) (lv (VA N sl x)) p.1 b':=by
        rw[hcut p.1 (f4 _ hr)] at h1;cases hc:qE (blS sl x) p.1 with
        | none=>rw[hc] at h1;injection h1 with h1;subst h1;cases h2
        | some c=>rw[hc] at h1;injection h1 with h1;subst h1;exact(c1 (p.1,c) (cv hc)).1
       have e1:mI (iF tm CH sl) p.1=some p.1:=e1;cases b' with
       | row q e t xs =>
         rcases hv with⟨j,q1,q2⟩ | ⟨q1,_⟩
         · rw[e1] at q1;injection q1 with q1;subst q1
           rw[z1] at q2;injection q2 with q2;subst q2;exact z2
         · rw[e1] at q1;cases q1
       | cells q e cs =>
         obtain⟨j,cs0,q1,q2,_⟩:=hv;rw[e1] at q1;injection q1 with q1;subst q1;rw[z1] at q2;injection q2 with q2;subst q2;cases q<;>exact z2
       | map xs =>
         obtain⟨j,q1,q2⟩:=hv;rw[e1] at q1;injection q1 with q1;subst q1;rw[z1] at q2;injection q2 with q2;subst q2;exact z2
       | _=>exact hv.elim
   · cases h
 · cases h
end
end
section
inductive Ex where
 | normal | ret | exit (id:Nat)
def loops:Code->Nat
 | .seq a b=>loops a+loops b
 | .cond _ x y=>loops x+loops y
 | .block _ b=>loops b
 | .loop c=>loops c+1
 | .scope c=>loops c
 | _=>0
abbrev F0 (R:Type):=Nat->Ex->List AV->List AB->Tree R
structure Cut (R:Type) where
 sl:List Slot
 g:Nat->TS sl->Option R
structure Bs (R:Type) where
 N:CN
 lp:Nat->Option (Cut R)
 rb:Nat->Option (Cut R)
 ra:Nat->Option (Cut R)
def AH {R:Type} :List (Nat × Cut R)->Nat->Option (Cut R)
 | [],_=>none
 | (u,c)::l,i=>if i=u then some c else AH l i
section
variable {R:Type}
def Cut.go (N:CN) (c:Cut R) (k:Nat) (tm:List AV) (hp:List AB):Tree R:=AB1 N c.sl c.g k tm hp
def AB3 (d:F0 R->Nat->List AV->List AB->Tree R) (K:F0 R):F0 R:=λk e tm hp=>match e with
 | .normal=>d K k tm hp
 | e=>K k e tm hp
def inB (id:Nat):Ex->Ex
 | .exit j=>if j=id then .normal else .exit j
 | e=>e
def AB4 (id:Nat) (K:F0 R):F0 R:=λk e tm hp=>K k (inB id e) tm hp
def VB (N:CN) (c:Cut R) (K:F0 R):F0 R:=λk e tm hp=>match e with
 | .normal=>c.go N k tm hp
 | e=>K k e tm hp
noncomputable def vV (Θ:Kb) (S:FuncId->Option FE) (Bt:Nat->List Nat) (id:Nat) (ops:Array Oper) (draw:Bool) (K:F0 R) (k:Nat) (tm:List AV) (hp:List AB):Tree R :=
 if draw=true then U8 Θ S k ops (Bt id) ops.toList 0 [] tm hp (K k .normal) else RI Θ S k ops ops.toList tm hp (K k .normal)
def behind (C:Bs R) (id:Nat) (K:F0 R):F0 R:=match C.ra id with
 | some ct=>VB C.N ct K
 | none=>K
noncomputable def den (Θ:Kb) (S:FuncId->Option FE) (Bt:Nat->List Nat) (C:Bs R) (c:Code):Nat->F0 R->Nat->List AV->List AB->Tree R :=
 Code.rec (motive:=λ_=>Nat->F0 R->Nat->List AV->List AB->Tree R)
  (λ_ K k tm hp=>K k .normal tm hp)
  (λid ops draw _ K k tm hp=>match C.rb id with
    | some ct=>ct.go C.N k tm hp
    | none=>vV Θ S Bt id ops draw (behind C id K) k tm hp)
  (λa _ da db n K k tm hp=>da n (AB3 (db (n+loops a)) K) k tm hp)
  (λc x _ dx dy n K k tm hp=>match AW tm c with
    | .val [.ro .bool b]=>Tree.Lb ((b:Bool)=true) (dx n K k tm hp) (dy (n+loops x) K k tm hp)
    | _=> .non)
  (λid _ db n K k tm hp=>db n (AB4 id K) k tm hp)
  (λ_ _ n _ k tm hp=>match C.lp n with
    | some ct=>ct.go C.N k tm hp
    | none=> .non)
  (λ_ _ _ _ _ _ _ _ _ _ _=> .non)
  (λid _ K k tm hp=>K k (.exit id) tm hp)
  (λ_ db n K k tm hp=>db n K k tm hp)
  (λ_ _ K k tm hp=>K k .normal tm hp)
  (λ_ _ _ _ _ _=> .non)
  (λ_ K k tm hp=>K k .ret tm hp)
  (λ_ _ _ _ _ _=> .non) c
def mK (ops:Array Oper):Bool:=ops.all λo=>match o.op with
 | .store .. =>o.dst.isNone
 | _=>true
def JM (Bt:Nat->List Nat):Code->Bool
 | .seq a b=>JM Bt a&&JM Bt b
 | .cond _ x y=>JM Bt x&&JM Bt y
 | .block _ b=>JM Bt b
 | .scope b=>JM Bt b
 | .loop c=>JM Bt c
 | .region id ops draw=>mK ops&&(!draw || AHM ops (Bt id))
 | _=>true
def ObD (C:Bs R) (ct:Cut R) (D:Nat->List AV->List AB->Tree R):Prop:= ∀k x r,ct.g k x=some r-> ∃k',k'<=k/\(D k' (qz C.N ct.sl x) (VA C.N ct.sl x)).run=some r
def obA (C:Bs R) (id:Nat) (K:F0 R) (q:Prop):Prop:=match C.ra id with
 | some ct=>ObD C ct (λk=>K k .normal)/\q
 | none=>q
theorem rA {C:Bs R} {id:Nat} {K:F0 R} {q:Prop} (h:obA C id K q):q:=by
 unfold obA at h;split at h
 · exact h.2
 · exact h
def ObL (C:Bs R) (ct:Cut R) (D:Nat->List AV->List AB->Tree R):Prop:= ∀k x r,ct.g k x=some r-> ∃k',k'<k/\(D k' (qz C.N ct.sl x) (VA C.N ct.sl x)).run=some r
noncomputable def obs (Θ:Kb) (S:FuncId->Option FE) (Bt:Nat->List Nat) (C:Bs R) (c:Code):Nat->F0 R->Prop->Prop :=
 Code.rec (motive:=λ_=>Nat->F0 R->Prop->Prop)
  (λ_ _ q=>q)
  (λid ops draw _ K q=>match C.rb id with
    | some ct=>ObD C ct (vV Θ S Bt id ops draw (behind C id K))/\obA C id K q
    | none=>obA C id K q)
  (λa b da db n K q=>da n (AB3 (den Θ S Bt C b (n+loops a)) K) (db (n+loops a) K q))
  (λ_ x _ dx dy n K q=>dx n K (dy (n+loops x) K q))
  (λid _ db n K q=>db n (AB4 id K) q)
  (λb db n K q=>match C.lp n with
    | some ct=>ObL C ct (den Θ S Bt C b (n+1) (VB C.N ct K))/\db (n+1) (VB C.N ct K) q
    | none=>db (n+1) K q)
  (λ_ _ _ _ _ _ _ _ q=>q)
  (λ_ _ _ q=>q)
  (λ_ db n K q=>db n K q)
  (λ_ _ _ q=>q)
  (λ_ _ _ q=>q)
  (λ_ _ q=>q)
  (λ_ _ _ q=>q) c
theorem Il {Θ:Kb} {S:FuncId->Option FE} {Bt:Nat->List Nat} {C:Bs R} : ∀(c:Code) (n:Nat) (K:F0 R) (q:Prop),obs Θ S Bt C c n K q->q
 | .skip,_,_,_,h=>h
 | .region id ops draw,n,K,q,h=>by
   change (match C.rb id with
    | some ct=>ObD C ct (vV Θ S Bt id ops draw (behind C id K))/\obA C id K q
    | none=>obA C id K q) at h
   split at h
   · exact rA h.2
   · exact rA h
 | .seq a b,n,K,q,h=>Il b _ _ _ (Il a _ _ _ h)
 | .cond _ x y,n,K,q,h=>Il y _ _ _ (Il x _ _ _ h)
 | .block id b,n,K,q,h=>Il b _ _ _ h
 | .loop b,n,K,q,h=>by
   change (match C.lp n with
    | some ct=>ObL C ct (den Θ S Bt C b (n+1) (VB C.N ct K))/\obs Θ S Bt C b (n+1) (VB C.N ct K) q
    | none=>obs Θ S Bt C b (n+1) K q) at h
   split at h
   · exact Il b _ _ _ h.2
   · exact Il b _ _ _ h
 | .scope b,n,K,q,h=>Il b _ _ _ h
 | .exit _,_,_,_,h=>h
 | .label _,_,_,_,h=>h
 | .goto _,_,_,_,h=>h
 | .ret,_,_,_,h=>h
 | .rangeFunc ..,_,_,_,h=>h
 | .refuse _,_,_,_,h=>h
end
def ALv:Ex->Exit
 | .normal=> .normal
 | .ret=> .ret
 | .exit id=> .exit id
section
variable {P:Program} {Θ:Kb} {S:FuncId->Option FE} {U0:Nat->Prop} {w0:St} {R:Type} {r:R} {Bt:Nat->List Nat} {C:Bs R}
theorem F3.less {k k0:Nat} (h:F3 P S k0) (hk:k<=k0):F3 P S k:=λg s hs=>⟨(h g s hs).1,λq hq=>(h g s hs).2 q (AQp hq hk)⟩
def Fits (U0:Nat->Prop) (w0:St) (k0:Nat) (r:R) (K:F0 R) (Q:Exit->Act->World->Prop):Prop:= ∀k e tm hp,k<=k0->(K k e tm hp).run=some r-> ∀ν a w,Inv U0 ν tm hp w0 a w->Q (ALv e) a w
theorem AB5 {k0:Nat} {d:F0 R->Nat->List AV->List AB->Tree R} {K:F0 R} {Q:Exit->Act->World->Prop} {next:Act->World->Prop} (h:Fits U0 w0 k0 r K Q) (hn : ∀k tm hp,k<=k0->(d K k tm hp).run=some r-> ∀ν a w,Inv U0 ν tm hp w0 a w->next a w):Fits U0 w0 k0 r (AB3 d K) (Exit.then next Q):=by
 intro k e tm hp hk hK ν a w I;cases e with
 | normal=>exact hn k tm hp hk hK ν a w I
 | ret=>exact h k .ret tm hp hk hK ν a w I
 | exit id=>exact h k (.exit id) tm hp hk hK ν a w I
theorem AB6 {k0 id:Nat} {K:F0 R} {Q:Exit->Act->World->Prop} (h:Fits U0 w0 k0 r K Q):Fits U0 w0 k0 r (AB4 id K) (Exit.inBlock id Q):=by
 intro k e tm hp hk hK ν a w I;cases e with
 | normal=>exact h k .normal tm hp hk hK ν a w I
 | ret=>exact h k .ret tm hp hk hK ν a w I
 | exit j =>
   have hK:(K k (if j=id then Ex.normal else Ex.exit j) tm hp).run=some r:=hK;show(if j=id then Q .normal a w else Q (.exit j) a w);by_cases hj:j=id
   · rw[if_pos hj] at hK ⊢;exact h k .normal tm hp hk hK ν a w I
   · rw[if_neg hj] at hK ⊢;exact h k (.exit j) tm hp hk hK ν a w I
theorem Yz (Z7 : ∀q,U0 q->q<w0.heap.size) (hF : ∀p∈w0.fx,p.1∈C.N.f) {k0 id:Nat} {K:F0 R} {Q:Exit->Act->World->Prop} {q:Prop} (ho:obA C id K q) (h:Fits U0 w0 k0 r K Q):Fits U0 w0 k0 r (behind C id K) Q:=by
 unfold behind;unfold obA at ho;split at ho
 · rename_i ct he
   intro k e tm hp hk hK ν a w I;cases e with
   | normal =>
     obtain⟨x,ν',hg,I'⟩:=I.cut Z7 hF hK;obtain⟨k',hk',hd⟩:=ho.1 k x r hg;exact h k' .normal _ _ (by omega) hd ν' a w I'
   | ret=>exact h k .ret tm hp hk hK ν a w I
   | exit id=>exact h k (.exit id) tm hp hk hK ν a w I
 · exact h
theorem vW {k0:Nat} {K:F0 R} {Q:Exit->Act->World->Prop} (h:Fits U0 w0 k0 r K Q):Fits U0 w0 k0 r K (Exit.noGoto Q):=by
 intro k e tm hp hk hK ν a w I;cases e with
 | normal=>exact h k .normal tm hp hk hK ν a w I
 | ret=>exact h k .ret tm hp hk hK ν a w I
 | exit id=>exact h k (.exit id) tm hp hk hK ν a w I
theorem jf {ops:Array Oper} (h:mK ops=true) : ∀o∈ops.toList,∀t x y,o.op= .store t x y->o.dst=none:=by
 intro o ho t x y hop;unfold mK at h;rw[Array.all_eq_true'] at h;have:=h o (by simpa using ho);rw[hop] at this;simpa using this
theorem Inv.drawn {ν:Nat->Value} {tm:List AV} {hp:List AB} {a:Act} {w:World} (I:Inv U0 ν tm hp w0 a w):Inv U0 ν tm hp w0 a {w with drawn:=w.drawn+1} :=
 I.go (a:=a) none .Fm undef (AP1 _) (λ_ _=>rfl) (λj hj k hk=>(I.lt hj hk).1) trivial (I.fr.step ⟨rfl,rfl,rfl,AP1 _,λ_ _=>rfl⟩)
theorem jg (hm:P.follows .mixedOrders=true) (hΘ:Θ.ok P=true) (Z7 : ∀q,U0 q->q<w0.heap.size) (hF : ∀p∈w0.fx,p.1∈C.N.f) {id:Nat} {ops:Array Oper} {draw:Bool} {k0:Nat} {K:F0 R} {Q:Exit->Act->World->Prop} (hS:F3 P S k0) (hc:JM Bt (.region id ops draw)=true) (hK:Fits U0 w0 k0 r K Q)
 {k:Nat} {tm:List AV} {hp:List AB} (hk:k<=k0) (h:(vV Θ S Bt id ops draw K k tm hp).run=some r) {ν:Nat->Value} {a:Act} {w:World} (I:Inv U0 ν tm hp w0 a w):(Code.region id ops draw).wp P Q a w:=by
 simp only[JM,APz,ARJ,ARG] at hc;unfold vV at h;split at h
 · rename_i hd
   subst hd;have hr:AHM ops (Bt id)=true:=hc.2.resolve_left (by simp);unfold AHM at hr;rw[APz] at hr;obtain⟨us,rec,ALw⟩:=PL ops.toList 0 (λ_=>⟨.Fm,H0,[]⟩) [] tm hp rfl ⟨rfl,λj hj=>by omega,λa b ha=>by omega,rB.symm,rC.symm⟩ (by simp) h;refine wp_region_any hm ?_;have hfalse : ∀ {j:Nat},j<ops.size->dn (Array.replicate ops.size false) j=false:=λ{j} hj=>by unfold dn;simp[hj]
   have e1:Tq ops us tm (dn (Array.replicate ops.size false)) ops.size=tm:=by
    have:Tq ops us tm (dn (Array.replicate ops.size false)) ops.size=Tq ops us tm (dn (Array.replicate ops.size false)) 0:=by
     unfold Tq;exact AQn λt _=>WB _ _ (by omega) λm _ hm _=>hfalse hm
    rw[this,rB]
   have e2:Tr ops us hp (dn (Array.replicate ops.size false)) ops.size=hp:=by
    have:Tr ops us hp (dn (Array.replicate ops.size false)) ops.size=Tr ops us hp (dn (Array.replicate ops.size false)) 0:=by
     unfold Tr;exact AQn λt _=>WB _ _ (by omega) λm _ hm _=>hfalse hm
    rw[this,rC]
   refine AHK hΘ (hS.less hk) hr.1 hr.2 (jf hc.1) rec Z7 (λν' a' w' I=>hK k .normal _ _ hk ALw ν' a' w' I) ops.size _ ν a _ (by simp) (λj hj hd=>by rw[hfalse hj] at hd;cases hd) ?_ (by rw[e1,e2];exact I.drawn);unfold left;exact AQp List.countP_le_length (by simp)
 · rename_i hd
   have hd:draw=false:=(by simpa using hd);subst hd;refine wp_region_list ?_;exact mL hΘ (hS.less hk) (λFO CH h' ν' a' w' I'=>hK k .normal FO CH hk h' ν' a' w' I') Z7 ops.toList tm hp ν a w (jf hc.1) h I
theorem Kf (hm:P.follows .mixedOrders=true) (hΘ:Θ.ok P=true) (Z7 : ∀q,U0 q->q<w0.heap.size) (hF : ∀p∈w0.fx,p.1∈C.N.f) : ∀(c:Code) (k0:Nat) (n:Nat) (K:F0 R) (Q:Exit->Act->World->Prop) (q:Prop),F3 P S k0->JM Bt c=true->obs Θ S Bt C c n K q->Fits U0 w0 k0 r K Q ->
 ∀(k:Nat) (tm:List AV) (hp:List AB),k<=k0->(den Θ S Bt C c n K k tm hp).run=some r-> ∀(ν:Nat->Value) (a:Act) (w:World),Inv U0 ν tm hp w0 a w->c.wp P Q a w
 | .skip,k0,n,K,Q,_,_,_,_,hK,k,tm,hp,hk,h,ν,a,w,I=>wp_skip (hK k .normal tm hp hk h ν a w I)
 | .exit id,k0,n,K,Q,_,_,_,_,hK,k,tm,hp,hk,h,ν,a,w,I=>wp_exit (hK k (.exit id) tm hp hk h ν a w I)
 | .ret,k0,n,K,Q,_,_,_,_,hK,k,tm,hp,hk,h,ν,a,w,I=>wp_ret (hK k .ret tm hp hk h ν a w I)
 | .region id ops draw,k0,n,K,Q,q,hS,hc,hl,hK,k,tm,hp,hk,h,ν,a,w,I=>by
   replace h:(match C.rb id with
    | some ct=>ct.go C.N k tm hp
    | none=>vV Θ S Bt id ops draw (behind C id K) k tm hp).run=some r:=h
   replace hl:(match C.rb id with
    | some ct=>ObD C ct (vV Θ S Bt id ops draw (behind C id K))/\obA C id K q
    | none=>obA C id K q):=hl
   split at h
   · rename_i ct he
     rw[he] at hl;obtain⟨x,ν',hg,I'⟩:=I.cut Z7 hF h;obtain⟨k',hk',hd⟩:=hl.1 k x r hg;exact jg hm hΘ Z7 hF hS hc (Yz Z7 hF hl.2 hK) (by omega) hd I'
   · rename_i he
     rw[he] at hl;exact jg hm hΘ Z7 hF hS hc (Yz Z7 hF hl hK) hk h I
 | .seq x y,k0,n,K,Q,_,hS,hc,hl,hK,k,tm,hp,hk,h,ν,a,w,I=>by
   simp only[JM,APz] at hc;refine wp_seq ?_;exact Kf hm hΘ Z7 hF x k0 n _ _ _ hS hc.1 hl (AB5 hK λk' FO CH hk' h' ν' a' w' I'=>Kf hm hΘ Z7 hF y k0 (n+loops x) K Q _ hS hc.2 (Il x _ _ _ hl) hK k' FO CH hk' h' ν' a' w' I') k tm hp hk h ν a w I
 | .cond c x y,k0,n,K,Q,_,hS,hc,hl,hK,k,tm,hp,hk,h,ν,a,w,I=>by
   simp only[JM,APz] at hc
   replace h:(match AW tm c with
    | .val [.ro .bool b]=>Tree.Lb ((b:Bool)=true) (den Θ S Bt C x n K k tm hp) (den Θ S Bt C y (n+loops x) K k tm hp)
    | _=> .non).run=some r:=h
   split at h
   · rename_i b hb
     have hv:=TD (hb▸I.AW c);refine wp_cond_split hv (λht=> ?_) (λhf=> ?_)
     · rcases Tree.Mv h with⟨_,h⟩ | ⟨hn,_⟩
       · exact Kf hm hΘ Z7 hF x k0 n K Q _ hS hc.1 hl hK k tm hp hk h ν a w I
       · exact absurd ht hn
     · rcases Tree.Mv h with⟨hn,_⟩ | ⟨_,h⟩
       · rw[hf] at hn;cases hn
       · exact Kf hm hΘ Z7 hF y k0 (n+loops x) K Q _ hS hc.2 (Il x _ _ _ hl) hK k tm hp hk h ν a w I
   · cases h
 | .block id b,k0,n,K,Q,q,hS,hc,hl,hK,k,tm,hp,hk,h,ν,a,w,I=>wp_block (Kf hm hΘ Z7 hF b k0 n _ _ _ hS hc hl (AB6 hK) k tm hp hk h ν a w I)
 | .loop c,k0,n,K,Q,q,hS,hc,hl,hK,k,tm,hp,hk,h,ν,a,w,I=>by
   replace h:(match C.lp n with
    | some ct=>ct.go C.N k tm hp
    | none=> .non).run=some r:=h
   replace hl:(match C.lp n with
    | some ct=>ObL C ct (den Θ S Bt C c (n+1) (VB C.N ct K))/\obs Θ S Bt C c (n+1) (VB C.N ct K) q
    | none=>obs Θ S Bt C c (n+1) K q):=hl
   split at h
   · rename_i ct he
     rw[he] at hl;refine wp_loop_ghost (λm a w=>m<=k0/\ ∃tm hp ν,(ct.go C.N m tm hp).run=some r/\Inv U0 ν tm hp w0 a w) k ⟨hk,tm,hp,ν,h,I⟩ ?_;rintro m a w ⟨hm0,tm,hp,ν,hJ,I⟩;obtain⟨x,ν',hg,I'⟩:=I.cut Z7 hF hJ;obtain⟨k',hk',hd⟩:=hl.1 m x r hg;refine Kf hm hΘ Z7 hF c k' (n+1) _ _ _ (hS.less (by omega)) hc hl.2 ?_ k' _ _ (AP1 _) hd ν' a w I';intro k2 e tm2 Mo hk2 hK2 ν2 a2 w2 I2;cases e with
     | normal=>exact⟨k2,by omega,by omega,tm2,Mo,ν2,hK2,I2⟩
     | ret=>exact hK k2 .ret tm2 Mo (by omega) hK2 ν2 a2 w2 I2
     | exit id=>exact hK k2 (.exit id) tm2 Mo (by omega) hK2 ν2 a2 w2 I2
   · cases h
 | .label _,k0,n,K,Q,_,_,_,_,hK,k,tm,hp,hk,h,ν,a,w,I=>wp_label (hK k .normal tm hp hk h ν a w I)
 | .goto _,_,_,_,_,_,_,_,_,_,_,_,_,_,h,_,_,_,_=>absurd (show(Tree.non:Tree R).run=some r from h) (λz=>Tree.IC z)
 | .refuse _,_,_,_,_,_,_,_,_,_,_,_,_,_,h,_,_,_,_=>absurd (show(Tree.non:Tree R).run=some r from h) (λz=>Tree.IC z)
 | .scope b,k0,n,K,Q,q,hS,hc,hl,hK,k,tm,hp,hk,h,ν,a,w,I=>wp_scope_straight (Kf hm hΘ Z7 hF b k0 n _ _ _ hS hc hl (vW hK) k tm hp hk h ν a w I)
 | .rangeFunc ..,_,_,_,_,_,_,_,_,_,_,_,_,_,h,_,_,_,_=>absurd (show(Tree.non:Tree R).run=some r from h) (λz=>Tree.IC z)
end
end
section
def vX:(ps:List Ty)->TT ps->List AV
 | [],_=> []
 | t::ts,(x,y)=> .val (X9 t x)::vX ts y
def iG (Θ:Kb) (tm:List AV) (hp:List AB):(rs:List Ty)->List ResultVar->Option (TT rs)
 | [],[]=>some ()
 | t::ts, .tmp q::os=>match AW tm (.tmp q) with
   | .val cs=>match E6 hp t cs with
     | some (x,[])=>match iG Θ tm hp ts os with
       | some xs=>some (x,xs)
       | none=>none
     | _=>none
   | _=>none
 | t::ts, .cell q u::os=>match AW tm (.tmp q),ti Θ u with
   | .val [.ptr j 0],some i=>match hp[j]? with
     | some (.cells _ _ cs)=>if i.size=cs.length then(match E6 hp t cs with
       | some (x,[])=>match iG Θ tm hp ts os with
         | some xs=>some (x,xs)
         | none=>none
       | _=>none) else none
     | _=>none
   | _,_=>none
 | _,_=>none
def K0 (Θ:Kb) (rs:List Ty) (vs:List ResultVar):F0 (TT rs):=λk e tm hp=>match e with
 | .exit _=> .non
 | _=>ofO (iG Θ tm hp rs vs)
def JL (n:Nat) (ps:List Ty) (x:TT ps):List AV:=vX ps x++List.replicate (n-ps.length) .Fm
section
variable {P:Program} {Θ:Kb} {S:FuncId->Option FE} {U0:Nat->Prop} {ν:Nat->Value} {tm:List AV} {hp:List AB} {w0:St} {w:World} {a:Act}
theorem cz : ∀ {ps:List Ty} {x:TT ps},(vX ps x).length=ps.length
 | [],_=>rfl
 | t::ts,x=>congrArg (· +1) cz
theorem c8 {ν:Nat->Value} {L:Nat->Prop} : ∀ {ps:List Ty} {x:TT ps} {vs:List Value},Tu (Un U0 ν L) w ps x vs->vs.length=ps.length/\ ∀(i:Nat) (y:AV),(vX ps x)[i]? =some y-> ∃v:Value,vs[i]? =some v/\Gg U0 ν L w y v
 | [],x,vs,h=>by rw[show vs= [] from h];exact⟨rfl,λi y hy=>by simp[vX] at hy⟩
 | t::ts,x,v::vs,⟨⟨cs,h1,h2⟩,h3⟩=>by
   obtain⟨q1,q2⟩:=c8 h3;refine⟨congrArg (· +1) q1,λi y hy=> ?_⟩;cases i with
   | zero =>
     simp only[vX,ARF] at hy;injection hy with hy;subst hy;exact⟨v,rfl,cs,h1,HY t x.1 h2⟩
   | succ i =>
     simp only[vX,AQ9] at hy;exact q2 i y hy
 | _::_,_,[],h=>h.elim
def TF (tmps:Array Value):ResultVar->Sem Value
 | .tmp t=>pure (tmps.getD t undef)
 | .cell a t=>do loadVar t (<-asAddr (tmps.getD a undef))
theorem rD (I:Inv U0 ν tm hp w0 a w) {U:Nat->Prop} (hU : ∀k,k<w.heap.size->U k->Un U0 ν (lv hp) k) {t:Ty} {cs:List AC} {x:T t} {vs:List Value} (hm:Cu U ν hp cs) (h:E6 hp t cs=some (x,[])) (hr:CZ (Cw U0 ν (lv hp) w) cs vs):Rd U w t x vs:=by
 obtain⟨v1,v2,e1,e2,e3,_⟩:=Ll I hU hm h hr;have:v2= []:=by
  cases v2 with
  | nil=>rfl
  | cons _ _=>exact e3.elim
 subst this;rw[ARC] at e1;exact e1▸e2
def AEn (tm:List AV) (hp:List AB):ResultVar->List AC
 | .tmp q=>cellsOf (AW tm (.tmp q))
 | .cell q _=>match AW tm (.tmp q) with
   | .val [.ptr j 0]=>match hp[j]? with
     | some (.cells _ _ cs)=>cs
     | _=> []
   | _=> []
theorem WC (hΘ:Θ.ok P=true) (I:Inv U0 ν tm hp w0 a w) {U:Nat->Prop} (hU : ∀k,k<w.heap.size->U k->Un U0 ν (lv hp) k) : ∀ {rs:List Ty} {os:List ResultVar} {x:TT rs},(∀o∈os,Cu U ν hp (AEn tm hp o))->iG Θ tm hp rs os=some x-> ∃us,(os.mapM (TF a.tmps)).run P w= .ok us w/\mM U w rs x us
 | [],[],x,hT,h=>⟨[],by simp,rfl⟩
 | t::ts, .tmp q::os,x,hT,h=>by
   simp only[iG] at h;split at h
   · rename_i cs hc
     split at h
     · rename_i y hy
       split at h
       · rename_i ys hys
         injection h with h;subst h;obtain⟨vs,h1,h2⟩:=hc▸I.AW (.tmp q);obtain⟨us,e1,e2⟩:=WC hΘ I hU (λo ho=>hT o (APp _ ho)) hys;have hT0:=hT _ APq;simp only[AEn,hc,cellsOf] at hT0;refine⟨O9 vs::us, ?_,⟨vs,rfl,rD I hU hT0 hy h2⟩,e2⟩;have h1:a.tmps.getD q undef=O9 vs:=h1;simp[AS0,TF,h1,e1]
       · cases h
     · cases h
   · cases h
 | t::ts, .cell q u::os,x,hT,h=>by
   simp only[iG] at h;split at h
   · rename_i j i hj hi
     split at h
     · rename_i lq e cs hb
       split at h
       · rename_i hsz
         split at h
         · rename_i y hy
           split at h
           · rename_i ys hys
             injection h with h;subst h;obtain⟨hjl,g,hν,hv⟩:=val_one (hj▸I.AW (.tmp q));obtain⟨g',vs,h1,h2,h3,h4,h5⟩:=I.cells hb;rw[hν] at h1;injection h1 with h1;injection h1 with h1;injection h1 with h1;subst h1;obtain⟨f,d,hf,hd,hs,_,_,ha,_⟩:=Bc hΘ hi;have hr:=PE (P:=P) (w:=w) (ad:=⟨g,0,none⟩) (vs:=vs) hf hd hs ha (by rw[<-h4.len,hsz]) (λz hz=>by rw[JA,Ks h3];simp);obtain⟨us,e1,e2⟩:=WC hΘ I hU (λo ho=>hT o (APp _ ho)) hys;have hT0:=hT _ APq;simp only[AEn,hj,hb] at hT0;refine⟨O9 vs::us, ?_,⟨vs,rfl,rD I hU hT0 hy h4⟩,e2⟩;have hv:a.tmps.getD q undef= .pointer (some ⟨g,0,none⟩):=hv;have hr':(loadVar u ⟨g,0,none⟩).run P w= .ok (O9 vs) w:=by
              have:=hr;unfold Instr.loadAt Instr.sureAddr at this;simpa using this
             simp[AS0,TF,hv,e1,asAddr,hr']
           · cases h
         · cases h
       · cases h
     · cases h
   · cases h
 | [],_::_,x,_,h=>by simp[iG] at h
 | _::_,[],x,_,h=>by simp[iG] at h
theorem RJ {fn:Func} {us:List Value} (h:(fn.results.toList.mapM (TF a.tmps)).run P w= .ok us w):(results fn a.tmps).run P w= .ok (mkR us) w:=by
 have e:results fn a.tmps=(do
  let vs <-fn.results.mapM (TF a.tmps)
  pure (if h:vs.size=1 then vs[0] else .tuple vs)):=by
  unfold results
  congr 1
 rw[e,Array.mapM_eq_mapM_toList];simp only[bind_map_left,Sem.run_bind,h,Result.andThen_ok,Sem.run_pure]
 congr 1
 match us with
 | []=>rfl
 | [u]=>rfl
 | u::v::l=>rfl
theorem AGC {g:FuncId} {fn:Func} {c:Code} {s:AS} {k k1 mm:Nat} {Bt:Nat->List Nat} {C:Bs (TT s.rs)} (hm:P.follows .mixedOrders=true) (hΘ:Θ.ok P=true) (hS:F3 P S k) (hf:P.funcs[g]? =some fn) (hb:fn.body=some c) (hc:JM Bt c=true) (hn:s.ps.length<=fn.ntmps)
 (hl:obs Θ S Bt C c 0 (K0 Θ s.rs fn.results.toList) True) (hd : ∀x r,s.f k1 x=some r->(den Θ S Bt C c 0 (K0 Θ s.rs fn.results.toList) k (JL fn.ntmps s.ps x) (List.replicate mm .gone)).run=some r):mN P g s k1:=by
 intro x r hr U w vs hU AB7;have rE : ∀j,¬lv (List.replicate mm AB.gone) j:=λj ⟨b,h1,h2⟩=>by
  rw[ARA] at h1;split at h1
  · injection h1 with h1;subst h1;simp[Ej] at h2
  · cases h1
 have hun : ∀q,Un U (λ_=>undef) (lv (List.replicate mm AB.gone)) q->U q:=λq hq=>hq.elim id λ⟨j,hj,_⟩=>absurd hj (rE j)
 have AB8:Tu (Un U (λ_=>undef) (lv (List.replicate mm AB.gone))) w s.ps x vs:=by
  have key : ∀ {ps:List Ty} {x:TT ps} {vs:List Value},Tu U w ps x vs->Tu (Un U (λ_=>undef) (lv (List.replicate mm AB.gone))) w ps x vs:=by
   intro ps;induction ps with
   | nil=>intro x vs h;exact h
   | cons t ts ih =>
     intro x vs h;cases vs with
     | nil=>exact h.elim
     | cons v vs =>
       obtain⟨⟨cs,h1,h2⟩,h3⟩:=h;exact⟨⟨cs,h1,h2.move ⟨AP1 _,λ_ _ _=>rfl,λq _ z=>hun q z⟩⟩,ih h3⟩
  exact key AB7
 obtain⟨hlen,hrel⟩:=c8 AB8;refine calls_of_wp hf hb ?_;refine Kf hm hΘ (w0:= {toWorld:=w,io:= [],fx:= []}) hU (λp hp=>by simp at hp) c k 0 _ _ _ hS hc hl ?_ k _ _ (AP1 _) (hd x r hr) (λ_=>undef) _ w ?_
 · intro k' e tm hp hk' hK ν a w' I
   have fin:(ofO (iG Θ tm hp s.rs fn.results.toList)).run=some r->a.defers= []/\ ∃v,(results fn a.tmps).run P w'= .ok v w'/\ ∃v',Ending.returned v= .returned v'/\rF U w' s.rs r v'/\Below w.heap.size w w':=by
    intro h;rw[yU] at h;obtain⟨us,e1,e2⟩:=WC hΘ I (U:=U) (λk _ z=> .inl z) (λo _ j e t xs hj hb k hk hu=>by
     have h1:w.heap.size<=k:=I.TB hb hk;have:=hU k hu;omega) h
    exact⟨I.defers,_,RJ e1,_,rfl,⟨us,rfl,e2⟩,⟨I.fr.os,I.fr.tape,I.fr.output,I.fr.size,λk hk=>I.fr.block k hk (by simp)⟩⟩
   cases e with
   | normal=>exact fin hK
   | ret=>exact fin hK
   | exit id=>exact(Tree.IC hK).elim
 · refine⟨by simp[JL,cz,hlen],λi y hy=> ?_,λj b h1 h2=>absurd ⟨b,h1,h2⟩ (rE j),λi j _ hi=>absurd hi (rE i),⟨rfl,rfl,rfl,AP1 _,λ_ _ _=>rfl⟩,λp hp=>by simp at hp,rfl⟩
   unfold JL at hy;rw[ARj] at hy;split at hy
   · rename_i hi
     obtain⟨v,hv,hR⟩:=hrel i y hy;have:(vs.toArray++Array.replicate (fn.ntmps-vs.toArray.size) undef).getD i undef=v:=by
      have hlt:=(APw.1 hv).1;rw[AQZ,ASX,if_pos (by simpa using hlt)];simp[hv]
     show Gg _ _ _ _ _ ((vs.toArray++Array.replicate (fn.ntmps-vs.toArray.size) undef).getD i undef);rw[this];exact hR
   · rw[ARA] at hy
     split at hy
     · injection hy with hy;subst hy;trivial
     · cases hy
end
def LeM {A R:Type} (m:A->R) (x:Option A) (y:Option R):Prop:= ∀a,x=some a->y=some (m a)
def DP (P:Program) (g:FuncId) (s:AS):Prop:=LR P g=true/\ ∀k,mN P g s k
def UB (P:Program) (g:FuncId) (s:D0):Prop:=LR P g=true/\ ∀k,IOk P g s k
def FNk (P:Program) (g:FuncId) (s:qZ):Prop:=LR P g=true/\ ∀k,NOk P g s k
def FPk (P:Program) (g:FuncId) (s:cO):Prop:=LR P g=true/\ ∀k,POk P g s k
def look:List (FuncId × FE)->FuncId->Option FE
 | [],_=>none
 | (u,s)::l,g=>if g=u then some s else look l g
def vY (P:Program):List (FuncId × FE)->Prop
 | []=>True
 | (g, .pu s)::l=>DP P g s/\vY P l
 | (g, .io s _)::l=>UB P g s/\vY P l
 | (g, .nw s)::l=>FNk P g s/\vY P l
 | (g, .np s)::l=>FPk P g s/\vY P l
def AP:List (Nat × List Nat)->Nat->List Nat
 | [],_=> []
 | (u,b)::l,i=>if i=u then b else AP l i
def Ae {A R:Type} (m:A->R) (x:Option A) (y:Tree R):Prop:=LeM m x y.run
section
variable {A B C R:Type} {m:A->R}
theorem Ae.call {x:Option B} {q:B->C} {y:Option C} {F:B->Option A} {G:C->Tree R} (hy:x.map q=y) (h : ∀t,x=some t->Ae m (F t) (G (q t))):Ae m (x.bind F) (.iE y G):=by
 subst hy;intro a ha;cases hx:x with
 | none=>rw[hx] at ha;cases ha
 | some t=>rw[hx] at ha;exact h t hx a ha
theorem Ae.again {x:Option B} {t:B} {q:B->C} {y:Option C} {X:Option A} {G:C->Tree R} (hx:x=some t) (hy:x.map q=y) (h:Ae m X (G (q t))):Ae m X (.iE y G):=by
 intro a ha;subst hy hx;exact h a ha
theorem Ae.ite {c:Prop} [Decidable c] {X Y:Option A} {Z:Tree R} (h1:c->Ae m X Z) (h2 : ¬c->Ae m Y Z):Ae m (if c then X else Y) Z:=by
 by_cases h:c
 · rw[if_pos h];exact h1 h
 · rw[if_neg h];exact h2 h
theorem Ae.ALx {c:Prop} [d:Decidable c] {X:Option A} {Y Z:Tree R} (h:c) (k:Ae m X Y):Ae m X (.Lb c Y Z):=λa ha=>by
 show(if c then Y.run else Z.run)=_;rw[if_pos h];exact k a ha
theorem Ae.ALy {c:Prop} [d:Decidable c] {X:Option A} {Y Z:Tree R} (h : ¬c) (k:Ae m X Z):Ae m X (.Lb c Y Z):=λa ha=>by
 show(if c then Y.run else Z.run)=_;rw[if_neg h];exact k a ha
theorem Ae.now {a:A} {r:R} (h:r=m a):Ae m (some a) (.done r):=λb hb=>by injection hb with hb;subst hb;exact congrArg some h
theorem Ae.none {y:Tree R} :Ae m Option.none y:=λb hb=>by cases hb
theorem Ae.tail {x:Option A} {y:Option R} (h:x.map m=y):Ae m x (.iE y .done):=λa ha=>by
 subst h ha;rfl
end
section
variable {R A:Type} {m:A->R} {N:CN} {sl:List Slot} {F:Nat->TS sl->Option A} {D:Nat->List AV->List AB->Tree R}
theorem Au (h0 : ∀x,F 0 x=none) (h : ∀k x,Ae m (F (k+1) x) (fL (qz N sl x) λtm=>fH (VA N sl x) λhp=>D k tm hp)) : ∀k x r,(F k x).map m=some r-> ∃k',k'<k/\(D k' (qz N sl x) (VA N sl x)).run=some r
 | 0,x,r,hr=>by rw[h0 x] at hr;cases hr
 | k+1,x,r,hr=>by
   obtain⟨a,ha,rfl⟩:=AQl.1 hr;have:=h k x a ha;rw[jV,jW] at this;exact⟨k,Nat.lt_succ_self k,this⟩
theorem Be (h0 : ∀x,F 0 x=none) (h : ∀k x,Ae m (F (k+1) x) (fL (qz N sl x) λtm=>fH (VA N sl x) λhp=>D k tm hp)) : ∀k x r,(F k x).map m=some r-> ∃k',k'<=k/\(D k' (qz N sl x) (VA N sl x)).run=some r:=λk x r hr=>by
 obtain⟨k',h1,h2⟩:=Au h0 h k x r hr;exact⟨k',Nat.le_of_lt h1,h2⟩
end
def Ai {R:Type} :Bs R:=⟨⟨0,0,[]⟩,λ_=>none,λ_=>none,λ_=>none⟩
def AEo (P:Program) (k0:Nat):List (FuncId × FE)->Prop
 | []=>True
 | p::l=>(LR P p.1=true/\ ∀k,k<=k0->AIx P p.1 p.2 k)/\AEo P k0 l
theorem vY.upTo {P:Program} {k0:Nat} : ∀ {l:List (FuncId × FE)},vY P l->AEo P k0 l
 | [],_=>trivial
 | (_, .pu _)::l,h=>⟨⟨h.1.1,λk _=>h.1.2 k⟩,vY.upTo (l:=l) h.2⟩
 | (_, .io _ _)::l,h=>⟨⟨h.1.1,λk _=>h.1.2 k⟩,vY.upTo (l:=l) h.2⟩
 | (_, .nw _)::l,h=>⟨⟨h.1.1,λk _=>h.1.2 k⟩,vY.upTo (l:=l) h.2⟩
 | (_, .np _)::l,h=>⟨⟨h.1.1,λk _=>h.1.2 k⟩,vY.upTo (l:=l) h.2⟩
theorem RK {P:Program} {k0:Nat} : ∀ {l:List (FuncId × FE)},AEo P k0 l->F3 P (look l) k0
 | [],_,g,s,hs=>by simp[look] at hs
 | (u,t)::l,h,g,s,hs=>by
   unfold look at hs;split at hs
   · rename_i e;injection hs with hs;subst hs;subst e;exact h.1
   · exact RK (l:=l) h.2 g s hs
theorem vZ {P:Program} {Θ:Kb} {l:List (FuncId × FE)} {g:FuncId} {fn:Func} {c:Code} {s:AS} {Bt:Nat->List Nat} {C:Bs (TT s.rs)} {A:Type} {m:A->TT s.rs} {k k1:Nat} {F:TT s.ps->Option A} (hm:P.follows .mixedOrders=true) (hΘ:Θ.ok P=true) (ho:AEo P k l) (hf:P.funcs[g]? =some fn) (hb:fn.body=some c) (hc:JM Bt c=true) (hn:s.ps.length<=fn.ntmps)
 (hF : ∀x,s.f k1 x=(F x).map m) (hl:obs Θ (look l) Bt C c 0 (K0 Θ s.rs fn.results.toList) True) (hd : ∀x,Ae m (F x) (fL (JL fn.ntmps s.ps x) λtm=>fH (List.replicate fn.ntmps .gone) λhp=>den Θ (look l) Bt C c 0 (K0 Θ s.rs fn.results.toList) k tm hp)):mN P g s k1 :=
 AGC hm hΘ (RK ho) hf hb hc hn hl λx r hr=>by
  rw[hF] at hr;obtain⟨a,ha,rfl⟩:=AQl.1 hr;have:=hd x a ha;rw[jV,jW] at this;exact this
theorem Aa {P:Program} {Θ:Kb} {l:List (FuncId × FE)} {g:FuncId} {fn:Func} {c:Code} {s:AS} {Bt:Nat->List Nat} {C:Bs (TT s.rs)} {A:Type} {m:A->TT s.rs} {F:Nat->TT s.ps->Option A} (hm:P.follows .mixedOrders=true) (hΘ:Θ.ok P=true) (ho:vY P l) (hf:P.funcs[g]? =some fn) (hb:fn.body=some c) (hc:JM Bt c=true) (hn:s.ps.length<=fn.ntmps) (hg:LR P g=true)
 (hF : ∀k x,s.f k x=(F k x).map m) (hl:obs Θ (look l) Bt C c 0 (K0 Θ s.rs fn.results.toList) True) (hd : ∀k x,Ae m (F k x) (fL (JL fn.ntmps s.ps x) λtm=>fH (List.replicate fn.ntmps .gone) λhp=>den Θ (look l) Bt C c 0 (K0 Θ s.rs fn.results.toList) k tm hp)):DP P g s :=
 ⟨hg,λk=>vZ (k1:=k) hm hΘ ho.upTo hf hb hc hn (hF k) hl (hd k)⟩
theorem AB9 {mm:Nat} {P:Program} {Θ:Kb} {l:List (FuncId × FE)} {g:FuncId} {fn:Func} {c:Code} {s:AS} {Bt:Nat->List Nat} {C:Bs (TT s.rs)} {A:Type} {m:A->TT s.rs} {F:Nat->TT s.ps->Option A} (hm:P.follows .mixedOrders=true) (hΘ:Θ.ok P=true) (ho:vY P l) (hf:P.funcs[g]? =some fn) (hb:fn.body=some c) (hc:JM Bt c=true) (hn:s.ps.length<=fn.ntmps) (hg:LR P g=true)
 (hF : ∀k x,s.f k x=(F k x).map m) (hl:obs Θ (look l) Bt C c 0 (K0 Θ s.rs fn.results.toList) True) (hd : ∀k x,Ae m (F k x) (fL (JL fn.ntmps s.ps x) λtm=>fH (List.replicate mm .gone) λhp=>den Θ (look l) Bt C c 0 (K0 Θ s.rs fn.results.toList) k tm hp)):DP P g s :=
 ⟨hg,λk=>AGC (mm:=mm) (k:=k) (k1:=k) hm hΘ (RK ho.upTo) hf hb hc hn hl λx r hr=>by
   rw[hF] at hr;obtain⟨a,ha,rfl⟩:=AQl.1 hr;have:=hd k x a ha;rw[jV,jW] at this;exact this⟩
attribute [irreducible] Ae
end
section
def Ja:List FK->Nat
 | []=>0
 | .row _ _ _::l=>Ja l+1
 | _::l=>Ja l
def KE:List PK->Nat
 | []=>0
 | .ty _::l=>KE l
 | .st _ fs::l=>1+Ja fs+KE l
 | .LP _ _::l=>1+KE l
def lq (keep:Bool):Lq:=match keep with
 | true=> .kept
 | false=> .GF
def ioV:(ps:List PK)->PT ps->Nat->List AV
 | [],_,_=> []
 | .ty t::l,(x,y),b=> .val (X9 t x)::ioV l y b
 | .st _ fs::l,(_,y),b=> .val [.ptr b 0]::ioV l y (b+(1+Ja fs))
 | .LP _ _::l,(_,y),b=> .val [.own b]::ioV l y (b+1)
def stC:(fs:List FK)->FT fs->Nat->List AC
 | [],_,_=> []
 | .ty t::l,(x,y),b=>X9 t x++stC l y b
 | .row _ _ _::l,(_,y),b=> .own b::stC l y (b+1)
def stE:(fs:List FK)->FT fs->Nat->List (Nat × AB)
 | [],_,_=> []
 | .ty _::l,(_,y),b=>stE l y b
 | .row k e t::l,(x,y),b=>(b, .row (lq k) e t x)::stE l y (b+1)
def vk:(ps:List PK)->PT ps->Nat->List (Nat × AB)
 | [],_,_=> []
 | .ty _::l,(_,y),b=>vk l y b
 | .st e fs::l,(x,y),b=>(b, .cells .kept e (stC fs x (b+1)))::(stE fs x (b+1)++vk l y (b+(1+Ja fs)))
 | .LP e t::l,(x,y),b=>(b, .row .kept e t x)::vk l y (b+1)
def tmI (n:Nat) (ps:List PK) (x:PT ps):List AV:=ioV ps x n++List.replicate (n-ps.length) .Fm
def hpI (n m:Nat) (ps:List PK) (x:PT ps):List AB:=De (vk ps x n) (List.replicate m .gone)
def fxF:List FK->Nat->List Nat
 | [],_=> []
 | .ty _::l,b=>fxF l b
 | .row k _ _::l,b=>match k with
   | true=>b::fxF l (b+1)
   | false=>fxF l (b+1)
def fxP:List PK->Nat->List Nat
 | [],_=> []
 | .ty _::l,b=>fxP l b
 | .st _ fs::l,b=>b::(fxF fs (b+1)++fxP l (b+(1+Ja fs)))
 | .LP _ _::l,b=>b::fxP l (b+1)
def VC (hp:List AB):(fs:List FK)->List AC->Nat->Option (FT fs × List Nat)
 | [],[],_=>some ((),[])
 | .ty t::l,cs,b=>match E6 hp t cs with
   | some (x,cs')=>match VC hp l cs' b with
     | some (y,ids)=>some ((x,y),ids)
     | none=>none
   | none=>none
 | .row true e t::l, .own j::cs,b=>if j=b then(match hp[j]? with
   | some (.row .kept e' t' xs)=>if h:e'=e/\t'=t then(match VC hp l cs (b+1) with
     | some (y,ids)=>h.2▸some ((xs,y),j::ids)
     | none=>none) else none
   | _=>none) else none
 | .row false e t::l, .Bx::cs,b=>match VC hp l cs (b+1) with
   | some (y,ids)=>some (([],y),ids)
   | none=>none
 | .row false e t::l, .own j::cs,b=>match hp[j]? with
   | some (.row q e' t' xs)=>if h:e'=e/\t'=t then(if q= .kept then none else match VC hp l cs (b+1) with
     | some (y,ids)=>h.2▸some ((xs,y),j::ids)
     | none=>none) else none
   | _=>none
 | _,_,_=>none
def endP (hp:List AB):(ps:List PK)->Nat->Option (ET ps × List Nat)
 | [],_=>some ((),[])
 | .ty _::l,b=>endP hp l b
 | .st e fs::l,b=>match hp[b]? with
   | some (.cells .kept e' cs)=>if e'=e then(match VC hp fs cs (b+1) with
     | some (x,ids)=>match endP hp l (b+(1+Ja fs)) with
       | some (y,ids')=>some ((x,y),b::(ids++ids'))
       | none=>none
     | none=>none) else none
   | _=>none
 | .LP e t::l,b=>match hp[b]? with
   | some (.row .kept e' t' xs)=>if h:e'=e/\t'=t then(match endP hp l (b+1) with
     | some (y,ids)=>h.2▸some ((xs,y),b::ids)
     | none=>none) else none
   | _=>none
def rG:List FK->List AC->List AC
 | .ty t::l,cs=>cs.take t.size++rG l (cs.drop t.size)
 | .row _ _ _::l,_::cs=>rG l cs
 | _,_=> []
def rH (hp:List AB):List PK->Nat->List AC
 | [],_=> []
 | .ty _::l,b=>rH hp l b
 | .st _ fs::l,b=>(match hp[b]? with
   | some (.cells _ _ cs)=>rG fs cs
   | _=> [])++rH hp l (b+(1+Ja fs))
 | .LP _ _::l,b=>rH hp l (b+1)
def ya:List AC->List Nat
 | []=> []
 | .own j::cs=>j::ya cs
 | _::cs=>ya cs
def ACA (hp:List AB) (tm:List AV) (ps:List PK) (n:Nat) (vs:List ResultVar) (ids:List Nat):Bool :=
 cT ids&&((ya (vs.flatMap (AEn tm hp)++rH hp ps n)).all λj=> !ids.contains j)
def AHN (Θ:Kb) (rs:List Ty) (vs:List ResultVar) (ps:List PK) (n:Nat) (tm:List AV) (hp:List AB):Tree (TT rs × ET ps):=match iG Θ tm hp rs vs with
 | some x=>match endP hp ps n with
   | some (y,ids)=>if ACA hp tm ps n vs ids=true then .done (x,y) else .non
   | none=> .non
 | none=> .non
def K0I (Θ:Kb) (rs:List Ty) (vs:List ResultVar) (ps:List PK) (n:Nat):F0 (TT rs × ET ps):=λk e tm hp=>match e with
 | .exit _=> .non
 | _=>AHN Θ rs vs ps n tm hp
section
variable {P:Program} {Θ:Kb} {S:FuncId->Option FE} {U0:Nat->Prop} {ν:Nat->Value} {tm:List AV} {hp:List AB} {w0:St} {w w':World} {a:Act}
theorem YC : ∀ {cs:List AC} {j:Nat},AC.own j∈cs->j∈ya cs
 | c::cs,j,h=>by
   rcases APv.1 h with rfl | h
   · exact APq
   · have:=YC h
     cases c<;>first | exact APp _ this | exact this
def gu:List FK->List Value->Nat->List (Nat × Value)
 | .ty t::l,us,b=>gu l (us.drop t.size) b
 | .row _ _ _::l,u::us,b=>(b,u)::gu l us (b+1)
 | _,_,_=> []
def uq (w:World):List PK->List Value->Nat->List (Nat × Value)
 | .ty _::l,_::vs,b=>uq w l vs b
 | .st _ fs::l,v::vs,b=>(b,v)::(gu fs (RL w v) (b+1)++uq w l vs (b+(1+Ja fs)))
 | .LP _ _::l,v::vs,b=>(b,v)::uq w l vs (b+1)
 | _,_,_=> []
theorem mO : ∀(fs:List FK) (b:Nat),gu fs [] b= []
 | [],_=>rfl
 | .ty t::l,b=>by simp only[gu,ATK];exact mO l b
 | .row _ _ _::l,b=>rfl
theorem RM (b n:Nat):b::(List.range n).map (b+1+ ·)=(List.range (1+n)).map (b+ ·):=by
 rw[ASW 1 n,ATD,AQP,ATO]
 congr 1
 exact AQn λi _=>by simp only[Function.comp];omega
theorem AHO {U:Nat->Prop} : ∀ {fs:List FK} {x:FT fs} {us:List Value} {bl:List Nat} (b:Nat),mP U w fs x us bl ->
 (stE fs x b).map (·.1)=(List.range (Ja fs)).map (b+ ·)/\(gu fs us b).map (·.1)=(List.range (Ja fs)).map (b+ ·)/\bl=(gu fs us b).flatMap (λp=>(DO p.2).toList)/\(∀p∈stE fs x b,Ej p.2=false) /\
 (∀i∈fxF fs b,∃b',(i,b')∈stE fs x b/\RD b'=true)/\(∀p∈gu fs us b,ref p.2=p.2) /\
 ∀(s:St) (ν:Nat->Value) (L:Nat->Prop),(∀p∈gu fs us b,ν p.1=p.2/\L p.1)->Move U w w (Un U ν L)->(∀k∈bl,k∈s.io)->CZ (Cw U ν L w) (stC fs x b) us/\ ∀p∈stE fs x b,Tn U ν L s w p.1 p.2
 | [],x,us,bl,b,h=>by
   obtain⟨rfl,rfl⟩:=h;exact⟨rfl,rfl,rfl,λp hp=>by simp[stE] at hp,λi hi=>by simp[fxF] at hi,λp hp=>by simp[gu] at hp,λs ν L _ _ _=>⟨trivial,λp hp=>by simp[stE] at hp⟩⟩
 | .ty t::l,x,us,bl,b,h=>by
   obtain⟨v1,v2,rfl,q1,q2⟩:=h;have hl:v1.length=t.size:=(by rw[(kd t).EI q1.K,Fz]);have e2:(v1++v2).drop t.size=v2:=(by rw[<-hl,ASy]);have e3:gu (.ty t::l) (v1++v2) b=gu l v2 b:=(by simp only[gu,e2]);obtain⟨z1,z2,z3,z4,z5,z6,z7⟩:=AHO b q2;rw[e3];refine⟨z1,z2,z3,z4,z5,z6,λs ν L h1 h2 h3=> ?_⟩;obtain⟨y1,y2⟩:=z7 s ν L h1 h2 h3;exact⟨(HY t x.1 (q1.move h2)).app y1,y2⟩
 | .row kp e t::l,x,[],bl,b,h=>h.elim
 | .row kp e t::l,x,u::us,bl,b,h=>by
   obtain⟨inner,b2,f1,f2,rfl,f3⟩:=h;obtain⟨z1,z2,z3,z4,z5,z6,z7⟩:=AHO (b+1) f3;have hr:(List.range (Ja (.row kp e t::l))).map (b+ ·)=b::(List.range (Ja l)).map (b+1+ ·):=by
    rw[RM,ASW];rfl
   rw[hr];refine⟨by simp only[stE,AQP,z1],by simp only[gu,AQP,z2],by simp only[gu,ARH,<-z3],λp hp=> ?_,λi hi=> ?_,λp hp=> ?_,λs ν L h1 h2 h3=> ?_⟩
   · rcases APv.1 hp with rfl | hp
     · rfl
     · exact z4 p hp
   · cases kp with
     | true =>
       rcases APv.1 (show i∈b::fxF l (b+1) from hi) with rfl | hi
       · exact⟨_,APq,rfl⟩
       · obtain⟨b',y1,y2⟩:=z5 i hi
         exact⟨b',APp _ y1,y2⟩
     | false =>
       obtain⟨b',y1,y2⟩:=z5 i hi;exact⟨b',APp _ y1,y2⟩
   · rcases APv.1 hp with rfl | hp
     · exact(ID f1).1
     · exact z6 p hp
   · have h0:=h1 (b,u) APq
     obtain⟨y1,y2⟩:=z7 s ν L (λp hp=>h1 p (APp _ hp)) h2 (λk hk=>h3 k (APu _ hk));have hm : ∀k,DO u=some k->LO s (lq kp) k:=λk hk=>by
      have:k∈s.io:=h3 k (APy _ (by rw[hk];simp));cases kp<;>exact .inr this
     refine⟨⟨⟨h0.2,by rw[h0.1];exact(ID f1).1.symm⟩,y1⟩,λp hp=> ?_⟩;rcases APv.1 hp with rfl | hp
     · refine⟨⟨inner, ?_,f2.HW λ_ _ z=>z.move h2⟩,λk hk=>hm k ((congrArg DO (show _=ν b from h0.1.symm)).trans hk)⟩
       rw[h0.1];exact c9 f1 λk hk=>V2 (hm k hk)
     · exact y2 p hp
theorem AEp {U:Nat->Prop} : ∀ {ps:List PK} {x:PT ps} {vs:List Value} {bl:List Nat} (b:Nat),vn U w ps x vs bl ->
 (vk ps x b).map (·.1)=(List.range (KE ps)).map (b+ ·)/\(uq w ps vs b).map (·.1)=(List.range (KE ps)).map (b+ ·)/\bl=(uq w ps vs b).flatMap (λp=>(DO p.2).toList)/\(∀p∈vk ps x b,Ej p.2=false) /\
 (∀i∈fxP ps b,∃b',(i,b')∈vk ps x b/\RD b'=true)/\vs.length=ps.length /\
 ∀(s:St) (ν:Nat->Value) (L:Nat->Prop),(∀p∈uq w ps vs b,ν p.1=p.2/\L p.1)->Move U w w (Un U ν L)->(∀k∈bl,k∈s.io)->(∀(i:Nat) (y:AV),(ioV ps x b)[i]? =some y-> ∃v:Value,vs[i]? =some v/\Gg U ν L w y v)/\ ∀p∈vk ps x b,Tn U ν L s w p.1 p.2
 | [],x,vs,bl,b,h=>by
   obtain⟨rfl,rfl⟩:=h;exact⟨rfl,rfl,rfl,λp hp=>by simp[vk] at hp,λi hi=>by simp[fxP] at hi,rfl,λs ν L _ _ _=>⟨λi y hy=>by simp[ioV] at hy,λp hp=>by simp[vk] at hp⟩⟩
 | .ty t::l,x,[],bl,b,h=>h.elim
 | .st e fs::l,x,[],bl,b,h=>h.elim
 | .LP e t::l,x,[],bl,b,h=>h.elim
 | .ty t::l,x,v::vs,bl,b,h=>by
   obtain⟨⟨cs,q1,q2⟩,q3⟩:=h;obtain⟨z1,z2,z3,z4,z5,z6,z7⟩:=AEp b q3;refine⟨z1,z2,z3,z4,z5,congrArg (· +1) z6,λs ν L h1 h2 h3=> ?_⟩;obtain⟨y1,y2⟩:=z7 s ν L h1 h2 h3;refine⟨λi y hy=> ?_,y2⟩;cases i with
   | zero =>
     simp only[ioV,ARF] at hy;injection hy with hy;subst hy;exact⟨v,rfl,cs,q1,HY t x.1 (q2.move h2)⟩
   | succ i =>
     simp only[ioV,AQ9] at hy;exact y1 i y hy
 | .st e fs::l,x,v::vs,bl,b,h=>by
   obtain⟨g,us,b1,b2,rfl,hg,f1,rfl,f2⟩:=h;have hus:RL w (.pointer (some ⟨g,0,none⟩))=us:=(by unfold RL;simp[hg]);obtain⟨y1,y2,y3,y4,y5,y6,y7⟩:=AHO (b+1) f1;obtain⟨z1,z2,z3,z4,z5,z6,z7⟩:=AEp (b+(1+Ja fs)) f2;have hr:(List.range (KE (.st e fs::l))).map (b+ ·)=b::((List.range (Ja fs)).map (b+1+ ·)++(List.range (KE l)).map (b+(1+Ja fs)+ ·)):=by
    rw[<-ASA,RM];exact jh b _ _
   have hnv:uq w (.st e fs::l) (.pointer (some ⟨g,0,none⟩)::vs) b=(b, .pointer (some ⟨g,0,none⟩))::(gu fs us (b+1)++uq w l vs (b+(1+Ja fs))):=(by simp only[uq,hus]);rw[hr,hnv];refine⟨by simp only[vk,AQP,AQu,y1,z1],by simp only[AQP,AQu,y2,z2], ?_,λp hp=> ?_,λi hi=> ?_,congrArg (· +1) z6,λs ν L h1 h2 h3=> ?_⟩
   · rw[ARH,ARb,<-y3,<-z3]
     rfl
   · rcases APv.1 hp with rfl | hp
     · rfl
     · exact(AQM.1 hp).elim (y4 p) (z4 p)
   · rcases APv.1 hi with rfl | hi
     · exact⟨_,APq,rfl⟩
     · rcases AQM.1 hi with hi | hi
       · obtain⟨b',q1,q2⟩:=y5 i hi
         exact⟨b',APp _ (APy _ q1),q2⟩
       · obtain⟨b',q1,q2⟩:=z5 i hi
         exact⟨b',APp _ (APu _ q1),q2⟩
   · have h0:=h1 (b, .pointer (some ⟨g,0,none⟩)) APq
     obtain⟨r1,r2⟩:=y7 s ν L (λp hp=>h1 p (APp _ (APy _ hp))) h2 (λk hk=>h3 k (APp _ (APy _ hk)));obtain⟨s1,s2⟩:=z7 s ν L (λp hp=>h1 p (APp _ (APu _ hp))) h2 (λk hk=>h3 k (APp _ (APu _ hk)));refine⟨λi y hy=> ?_,λp hp=> ?_⟩
     · cases i with
       | zero =>
         simp only[ioV,ARF] at hy;injection hy with hy;subst hy;exact⟨_,rfl,Ek (c:= .ptr b 0) ⟨h0.2,g,h0.1,rfl⟩⟩
       | succ i =>
         simp only[ioV,AQ9] at hy;exact s1 i y hy
     · rcases APv.1 hp with rfl | hp
       · exact⟨g,us,h0.1, .inr (h3 g APq),hg,r1⟩
       · exact(AQM.1 hp).elim (r2 p) (s2 p)
 | .LP e t::l,x,v::vs,bl,b,h=>by
   obtain⟨inner,b2,f1,f2,rfl,f3⟩:=h;obtain⟨z1,z2,z3,z4,z5,z6,z7⟩:=AEp (b+1) f3;have hr:(List.range (KE (.LP e t::l))).map (b+ ·)=b::(List.range (KE l)).map (b+1+ ·):=(RM b _).symm;rw[hr];refine⟨by simp only[vk,AQP,z1],by simp only[uq,AQP,z2],by simp only[uq,ARH,<-z3],λp hp=> ?_,λi hi=> ?_,congrArg (· +1) z6,λs ν L h1 h2 h3=> ?_⟩
   · rcases APv.1 hp with rfl | hp
     · rfl
     · exact z4 p hp
   · rcases APv.1 hi with rfl | hi
     · exact⟨_,APq,rfl⟩
     · obtain⟨b',q1,q2⟩:=z5 i hi
       exact⟨b',APp _ q1,q2⟩
   · have h0:=h1 (b,v) APq
     obtain⟨s1,s2⟩:=z7 s ν L (λp hp=>h1 p (APp _ hp)) h2 (λk hk=>h3 k (APu _ hk));have hm : ∀k,DO v=some k->LO s .kept k:=λk hk=> .inr (h3 k (APy _ (by rw[hk];simp)))
     refine⟨λi y hy=> ?_,λp hp=> ?_⟩
     · cases i with
       | zero =>
         simp only[ioV,ARF] at hy;injection hy with hy;subst hy;exact⟨_,rfl,Ek (c:= .own b) ⟨h0.2,by rw[h0.1];exact(ID f1).1.symm⟩⟩
       | succ i =>
         simp only[ioV,AQ9] at hy;exact s1 i y hy
     · rcases APv.1 hp with rfl | hp
       · refine⟨⟨inner, ?_,f2.HW λ_ _ z=>z.move h2⟩,λk hk=>hm k ((congrArg DO (show _=ν b from h0.1.symm)).trans hk)⟩
         rw[h0.1];exact c9 f1 λk hk=>V2 (hm k hk)
       · exact s2 p hp
theorem yc {U:Nat->Prop} {cs cs':List AC} (h:Cu U ν hp (cs++cs')):Cu U ν hp cs:=λj e t xs hj=>h j e t xs (APy _ hj)
theorem rI {U:Nat->Prop} {cs cs':List AC} (h:Cu U ν hp (cs++cs')):Cu U ν hp cs':=λj e t xs hj=>h j e t xs (APu _ hj)
theorem WD (I:Inv U0 ν tm hp w0 a w) {U:Nat->Prop} (hU : ∀k,k<w.heap.size->U k->Un U0 ν (lv hp) k) : ∀ {fs:List FK} {cs:List AC} {y:FT fs} {ids:List Nat} {us us':List Value} (b:Nat),VC hp fs cs b=some (y,ids)->CZ (Cw U0 ν (lv hp) w) cs us'->Cu U ν hp (rG fs cs)->(∀p∈gu fs us b,p.1∈fxF fs b->ν p.1=p.2)->mP U w fs y us' (mQ ν ids)/\(∀j∈ids,lv hp j)/\Qi fs us us'
 | [],[],y,ids,us,us',b,h,hr,hm,hk=>by
   simp only[VC] at h;injection h with h;injection h with _ h;subst h;have:us'= []:=by
    cases us' with
    | nil=>rfl
    | cons _ _=>exact hr.elim
   exact⟨⟨this,rfl⟩,λj hj=>by simp at hj,trivial⟩
 | [],_::_,y,ids,us,us',b,h,hr,hm,hk=>by simp[VC] at h
 | .ty t::l,cs,y,ids,us,us',b,h,hr,hm,hk=>by
   simp only[VC] at h;split at h
   · rename_i x cs' hx
     split at h
     · rename_i y' ids' hy
       injection h with h;injection h with h1 h2;subst h1 h2;obtain⟨rfl,_⟩:=Ke hx;obtain⟨q1,q2⟩:=cq I hU (yc hm) hx hr;have e3:gu (.ty t::l) us b=gu l (us.drop t.size) b:=(by simp only[gu]);rw[e3] at hk;obtain⟨z1,z2,z3⟩:=WD I hU (us:=us.drop t.size) b hy q2 (rI hm) hk;exact⟨⟨_,_,(ARM t.size us').symm,q1,z1⟩,z2,z3⟩
     · cases h
   · cases h
 | .row kp e t::l,[],y,ids,us,us',b,h,hr,hm,hk=>by cases kp<;>simp[VC] at h
 | .row kp e t::l,c::cs,y,ids,us,[],b,h,hr,hm,hk=>hr.elim
 | .row true e t::l,c::cs,y,ids,us,u::us',b,h,hr,hm,hk=>by
   cases c with
   | own j =>
     simp only[VC] at h;split at h
     · rename_i hj
       subst hj;split at h
       · rename_i e' t' xs hb
         split at h
         · rename_i q
           obtain⟨rfl,rfl⟩:=q;split at h
           · rename_i y' ids' hy
             injection h with h;injection h with h1 h2;subst h1 h2;obtain⟨⟨inner,y1,y2⟩,y3⟩:=I.mem j _ hb rfl;have hu:u=ν j:=hr.1.2.trans (ID y1).1;obtain⟨z1,z2,z3⟩:=WD I hU (us:=us.drop 1) (j+1) hy hr.2 hm (λp hp Mo=>by
              cases us with
              | nil=>rw[ATK,mO] at hp;simp at hp
              | cons u0 us=>exact hk p (APp _ hp) (APp _ Mo))
             refine⟨⟨inner,_,by rw[hu];exact RN y1,y2.HW λ_ _ z=>z.move ⟨AP1 _,λ_ _ _=>rfl,λk hk hu=>hU k hk hu⟩,by rw[hu];rfl,z1⟩,λi hi=> ?_, ?_⟩
             · rcases APv.1 hi with rfl | hi
               · exact⟨_,hb,rfl⟩
               · exact z2 i hi
             · cases us with
               | nil=>trivial
               | cons u0 us=>exact⟨by rw[hu];exact hk (j,u0) APq APq,z3⟩
           · cases h
         · cases h
       · cases h
     · cases h
   | _=>simp[VC] at h
 | .row false e t::l,c::cs,y,ids,us,u::us',b,h,hr,hm,hk=>by
   have hk' : ∀p∈gu l (us.drop 1) (b+1),p.1∈fxF l (b+1)->ν p.1=p.2:=λp hp Mo=>by
    cases us with
    | nil=>rw[ATK,mO] at hp;simp at hp
    | cons u0 us=>exact hk p (APp _ hp) Mo
   have hkp:Qi l (us.drop 1) us'->Qi (.row false e t::l) us (u::us'):=λh=>by
    cases us with
    | nil=>trivial
    | cons u0 us=>exact h
   cases c with
   | Bx =>
     simp only[VC] at h;split at h
     · rename_i y' ids' hy
       injection h with h;injection h with h1 h2;subst h1 h2;obtain⟨z1,z2,z3⟩:=WD I hU (us:=us.drop 1) (b+1) hy hr.2 hm hk';have hu:u= .slice none 0 0:=hr.1;subst hu;exact⟨⟨[],_,World.ownsRow_nil w _ _ _,Bw.none _ _,rfl,z1⟩,z2,hkp z3⟩
     · cases h
   | own j =>
     simp only[VC] at h;split at h
     · rename_i lq' e' t' xs hb
       split at h
       · rename_i q
         obtain⟨rfl,rfl⟩:=q;split at h
         · cases h
         · split at h
           · rename_i y' ids' hy
             injection h with h;injection h with h1 h2;subst h1 h2;obtain⟨⟨inner,y1,y2⟩,y3⟩:=I.mem j _ hb rfl;have hu:u=ν j:=hr.1.2.trans (ID y1).1;obtain⟨z1,z2,z3⟩:=WD I hU (us:=us.drop 1) (b+1) hy hr.2 hm hk';refine⟨⟨inner,_,by rw[hu];exact RN y1,y2.HW λ_ _ z=>z.move ⟨AP1 _,λ_ _ _=>rfl,λk hk hu=>hU k hk hu⟩,by rw[hu];rfl,z1⟩,λi hi=> ?_,hkp z3⟩;rcases APv.1 hi with rfl | hi
             · exact⟨_,hb,rfl⟩
             · exact z2 i hi
           · cases h
       · cases h
     · cases h
   | _=>simp[VC] at h
theorem WE (I:Inv U0 ν tm hp w0 a w') {U V:Nat->Prop} (hU : ∀k,k<w'.heap.size->U k->Un U0 ν (lv hp) k) : ∀ {ps:List PK} {x:PT ps} {y:ET ps} {ids:List Nat} {vs:List Value} {bl:List Nat} (b:Nat),vn V w ps x vs bl->endP hp ps b=some (y,ids)->Cu U ν hp (rH hp ps b)->(∀p∈uq w ps vs b,p.1∈fxP ps b->ν p.1=p.2)->vp U w w' ps y vs (mQ ν ids)/\ ∀j∈ids,lv hp j
 | [],x,y,ids,vs,bl,b,G9,h,hm,hk=>by
   simp only[endP] at h;injection h with h;injection h with _ h;subst h;exact⟨⟨G9.1,rfl⟩,λj hj=>by simp at hj⟩
 | .ty t::l,x,y,ids,[],bl,b,G9,h,hm,hk=>G9.elim
 | .st e fs::l,x,y,ids,[],bl,b,G9,h,hm,hk=>G9.elim
 | .LP e t::l,x,y,ids,[],bl,b,G9,h,hm,hk=>G9.elim
 | .ty t::l,x,y,ids,v::vs,bl,b,G9,h,hm,hk=>WE I hU (ps:=l) (vs:=vs) b G9.2 h hm hk
 | .st e fs::l,x,y,ids,v::vs,bl,b,G9,h,hm,hk=>by
   obtain⟨g,us,b1,b2,rfl,hg,f1,rfl,f2⟩:=G9;have hus:RL w (.pointer (some ⟨g,0,none⟩))=us:=(by unfold RL;simp[hg]);have hnv:uq w (.st e fs::l) (.pointer (some ⟨g,0,none⟩)::vs) b=(b, .pointer (some ⟨g,0,none⟩))::(gu fs us (b+1)++uq w l vs (b+(1+Ja fs))):=(by simp only[uq,hus]);rw[hnv] at hk;have h0:=hk (b, .pointer (some ⟨g,0,none⟩)) APq APq;simp only[endP] at h;split at h
   · rename_i e' cs hb
     split at h
     · rename_i he
       subst he;split at h
       · rename_i x1 APP hx1
         split at h
         · rename_i y1 AIy hy1
           injection h with h;injection h with h1 h2;subst h1 h2;obtain⟨g',vs',c1,c2,c3,c4,c5⟩:=I.cells hb;have h0:ν b= .pointer (some ⟨g,0,none⟩):=h0;rw[h0] at c1;injection c1 with c1;injection c1 with c1;injection c1 with c1;subst c1;have hm1:Cu U ν hp (rG fs cs):=by
            have:=yc (cs:=_) (cs':=_) hm;rw[hb] at this;exact this
           obtain⟨z1,z2,z3⟩:=WD I hU (us:=us) (b+1) hx1 c4 hm1 (λp hp Mo=>hk p (APp _ (APy _ hp)) (APp _ (APy _ Mo)));obtain⟨q1,q2⟩:=WE I hU (ps:=l) (vs:=vs) (b+(1+Ja fs)) f2 hy1 (rI hm) (λp hp Mo=>hk p (APp _ (APu _ hp)) (APp _ (APu _ Mo)));refine⟨⟨g,us,vs',_,_,rfl,hg,c3,z1,z3, ?_,q1⟩,λi hi=> ?_⟩
           · unfold mQ
             rw[ARH,ARb,h0];rfl
           · rcases APv.1 hi with rfl | hi
             · exact⟨_,hb,rfl⟩
             · exact(AQM.1 hi).elim (z2 i) (q2 i)
         · cases h
       · cases h
     · cases h
   · cases h
 | .LP e t::l,x,y,ids,v::vs,bl,b,G9,h,hm,hk=>by
   obtain⟨inner,b2,f1,f2,rfl,f3⟩:=G9;have h0:ν b=v:=hk (b,v) APq APq;simp only[endP] at h;split at h
   · rename_i e' t' xs hb
     split at h
     · rename_i q
       obtain⟨rfl,rfl⟩:=q;split at h
       · rename_i y1 AIy hy1
         injection h with h;injection h with h1 h2;subst h1 h2;obtain⟨⟨inner',y1,y2⟩,y3⟩:=I.mem b _ hb rfl;obtain⟨q1,q2⟩:=WE I hU (ps:=l) (vs:=vs) (b+1) f3 hy1 hm (λp hp Mo=>hk p (APp _ hp) (APp _ Mo));rw[h0] at y1;refine⟨⟨inner',_,RN y1,y2.HW λ_ _ z=>z.move ⟨AP1 _,λ_ _ _=>rfl,λk hk hu=>hU k hk hu⟩, ?_,q1⟩,λi hi=> ?_⟩
         · show mQ ν (b::AIy)=_
           unfold mQ;rw[ARH,h0]
         · rcases APv.1 hi with rfl | hi
           · exact⟨_,hb,rfl⟩
           · exact q2 i hi
       · cases h
     · cases h
   · cases h
theorem bD : ∀ {ps:List PK} {x:PT ps} {b:Nat},(ioV ps x b).length=ps.length
 | [],_,_=>rfl
 | .ty t::l,x,b=>congrArg (· +1) bD
 | .st e fs::l,x,b=>congrArg (· +1) bD
 | .LP e t::l,x,b=>congrArg (· +1) bD
theorem AHP {g:FuncId} {fn:Func} {c:Code} {s:D0} {k k1 m:Nat} {Bt:Nat->List Nat} {C:Bs (TT s.rs × ET s.ps)} (hm:P.follows .mixedOrders=true) (hΘ:Θ.ok P=true) (hS:F3 P S k) (hf:P.funcs[g]? =some fn) (hb:fn.body=some c) (hc:JM Bt c=true) (hn:s.ps.length<=fn.ntmps) (hM:fn.ntmps+KE s.ps<=m) (hF:(fxP s.ps fn.ntmps).all (λj=>C.N.f.contains j)=true)
 (hl:obs Θ S Bt C c 0 (K0I Θ s.rs fn.results.toList s.ps fn.ntmps) True) (hd : ∀x r,s.f k1 x=some r->(den Θ S Bt C c 0 (K0I Θ s.rs fn.results.toList s.ps fn.ntmps) k (tmI fn.ntmps s.ps x) (hpI fn.ntmps m s.ps x)).run=some r):IOk P g s k1:=by
 intro x r hr U w vs bl hU hpar hnd ACB;obtain⟨z1,z2,z3,z4,z5,z6,z7⟩:=AEp (b:=fn.ntmps) hpar;generalize hN:uq w s.ps vs fn.ntmps=N at *;have hrn:((List.range (KE s.ps)).map (fn.ntmps+ ·)).Nodup:=by
  unfold List.Nodup;rw[List.pairwise_map];exact List.nodup_range.imp λh e=>h (Nat.add_left_cancel e)
 have hlt : ∀i∈(List.range (KE s.ps)).map (fn.ntmps+ ·),i<(List.replicate m AB.gone).length:=λi hi=>by
  obtain⟨q,hq,rfl⟩:=AQY.1 hi;have:=AQ7.1 hq;rw[AQ8];omega
 have hon : ∀i b',(i,b')∈vk s.ps x fn.ntmps->(hpI fn.ntmps m s.ps x)[i]? =some b':=λi b' hi=>vq (hlt i (z1▸AQY.2 ⟨_,hi,rfl⟩)) (z1▸hrn) hi
 have hoff : ∀i,i ∉ N.map (·.1)-> ¬lv (hpI fn.ntmps m s.ps x) i:=λi hi ⟨b',q1,q2⟩=>by
  unfold hpI at q1;rw[bE (by rw[z1,<-z2];exact hi),ARA] at q1;split at q1
  · injection q1 with q1;subst q1;simp[Ej] at q2
  · cases q1
 have ACC : ∀i∈N.map (·.1),∃b',(i,b')∈vk s.ps x fn.ntmps:=λi hi=>by
  obtain⟨p,hp,rfl⟩:=AQY.1 (by rw[z1,<-z2];exact hi:i∈(vk s.ps x fn.ntmps).map (·.1));exact⟨p.2,hp⟩
 have hν : ∀p∈N,Gu N (λ_=>undef) p.1=p.2:=λp hp=>dA (z2▸hrn) hp
 have hL : ∀i∈N.map (·.1),lv (hpI fn.ntmps m s.ps x) i:=λi hi=>by
  obtain⟨b',hb'⟩:=ACC i hi;exact⟨b',hon i b' hb',z4 _ hb'⟩
 have hun : ∀q,Un U (Gu N λ_=>undef) (lv (hpI fn.ntmps m s.ps x)) q->U q:=λq hq=>by
  rcases hq with hq | ⟨i,hi,vr⟩
  · exact hq
  · by_cases RB:i∈N.map (·.1)
    · obtain⟨p,hp,rfl⟩:=AQY.1 RB
      rw[hν p hp] at vr;exact ACB q (by rw[z3];exact ARQ.2 ⟨p,hp,by rw[vr];simp⟩)
    · exact absurd hi (hoff i RB)
 obtain⟨y1,y2⟩:=z7 {toWorld:=w,io:=bl,fx:=(fxP s.ps fn.ntmps).map λj=>(j,Gu N (λ_=>undef) j)} (Gu N λ_=>undef) (lv (hpI fn.ntmps m s.ps x)) (λp hp=>⟨hν p hp,hL p.1 (AQY.2 ⟨p,hp,rfl⟩)⟩) ⟨AP1 _,λ_ _ _=>rfl,λq _ hq=>hun q hq⟩ (λ_ h=>h);rw[AQX] at hF;refine calls_of_wp hf hb ?_;refine Kf hm hΘ (w0:= {toWorld:=w,io:=bl,fx:=(fxP s.ps fn.ntmps).map λj=>(j,Gu N (λ_=>undef) j)}) hU (λp hp=> ?_) c k 0 _ _ _ hS hc hl ?_ k _ _ (AP1 _) (hd x r hr) (Gu N λ_=>undef) _ w ?_
 · obtain⟨j,hj,rfl⟩:=AQY.1 hp
   have:=hF j hj;simpa using this
 · intro k' e tm hp hk' hK ν a w' I
   have fin:(AHN Θ s.rs fn.results.toList s.ps fn.ntmps tm hp).run=some r->a.defers= []/\ ∃v,(results fn a.tmps).run P w'= .ok v w'/\ ∃v' ji,Ending.returned v= .returned v'/\rF (λq=>U q\/q∈ji) w' s.rs r.1 v'/\vp (λq=>U q\/q∈ji) w w' s.ps r.2 vs ji/\ji.Nodup/\(∀q∈ji,(q∈bl\/w.heap.size<=q)/\q<w'.heap.size)/\But bl w w':=by
    intro h;unfold AHN at h;split at h
    · rename_i rx hrx
      split at h
      · rename_i ry ids hry
        split at h
        · rename_i yd
          have h:some (rx,ry)=some r:=h;injection h with h;subst h;simp only[ACA,APz,AQX,ARG,ARP,decide_eq_false_iff_not] at yd;obtain⟨t1,t2⟩:=yd;have AEq : ∀j∈ids,lv hp j:=(WE I (U:=λ_=>False) (λ_ _ z=>z.elim) fn.ntmps hpar hry (λ_ _ _ _ _ _ _ _ z=>z) (λp hp Mo=>by
           have h0:=(I.fx (p.1,Gu N (λ_=>undef) p.1) (AQY.2 ⟨p.1,Mo,rfl⟩)).1;rw[hN] at hp;rw[h0];exact hν p hp)).2
          have hUn : ∀q,q<w'.heap.size->(U q\/q∈mQ ν ids)->Un U ν (lv hp) q:=λq _ hq=>by
           rcases hq with hq | hq
           · exact .inl hq
           · obtain⟨j,hj,hb⟩:=Lm.1 hq
             exact .inr ⟨j,AEq j hj,hb⟩
          have hmt : ∀cs:List AC,(∀j,AC.own j∈cs->j ∉ ids)->Cu (λq=>U q\/q∈mQ ν ids) ν hp cs:=λcs hcs j e t xs hj hb k hk hu=>by
           rcases hu with hu | hu
           · have h1:w.heap.size<=k:=I.TB hb hk
             have:=hU k hu;omega
           · obtain⟨i,hi,vr⟩:=Lm.1 hu
             exact I.uo i j (λe=>hcs j hj (e▸hi)) (AEq i hi) ⟨_,hb,rfl⟩ k vr hk
          obtain⟨us,e1,e2⟩:=WC hΘ I (U:=λq=>U q\/q∈mQ ν ids) hUn (λo ho=>hmt _ λj hj=>t2 j (YC (APy _ (ARQ.2 ⟨o,ho,hj⟩)))) hrx;obtain⟨e3,_⟩:=WE I (U:=λq=>U q\/q∈mQ ν ids) hUn fn.ntmps hpar hry (hmt _ λj hj=>t2 j (YC (APu _ hj))) (λp hp Mo=>by
           have h0:=(I.fx (p.1,Gu N (λ_=>undef) p.1) (AQY.2 ⟨p.1,Mo,rfl⟩)).1;rw[hN] at hp;rw[h0];exact hν p hp)
          refine⟨I.defers,_,RJ e1,_,mQ ν ids,rfl,⟨us,rfl,e2⟩,e3,YD I (VD t1) AEq,λq hq=> ?_,⟨I.fr.os,I.fr.tape,I.fr.output,I.fr.size,λk hk hk2=>I.fr.block k hk hk2⟩⟩;obtain⟨j,hj,cN⟩:=Lm.1 hq;have hlt:=I.lt (AEq j hj) cN;exact⟨hlt.2.symm,hlt.1⟩
        · cases h
      · cases h
    · cases h
   cases e with
   | normal=>exact fin hK
   | ret=>exact fin hK
   | exit id=>exact(Tree.IC hK).elim
 · refine⟨by simp[tmI,bD,z6],λi y hy=> ?_,λj b h1 h2=> ?_,λi j hij hi hj q h1 h2=> ?_,⟨rfl,rfl,rfl,AP1 _,λ_ _ _=>rfl⟩,λp hp=> ?_,rfl⟩
   · unfold tmI at hy
     rw[ARj] at hy;split at hy
     · rename_i hi
       obtain⟨v,hv,hR⟩:=y1 i y hy;have:(vs.toArray++Array.replicate (fn.ntmps-vs.toArray.size) undef).getD i undef=v:=by
        have hlt:=(APw.1 hv).1;rw[AQZ,ASX,if_pos (by simpa using hlt)];simp[hv]
       show Gg _ _ _ _ _ ((vs.toArray++Array.replicate (fn.ntmps-vs.toArray.size) undef).getD i undef);rw[this];exact hR
     · rw[ARA] at hy
       split at hy
       · injection hy with hy;subst hy;trivial
       · cases hy
   · by_cases RB:j∈N.map (·.1)
     · obtain⟨b',hb'⟩:=ACC j RB
       rw[hon j b' hb'] at h1;injection h1 with h1;subst h1;exact y2 _ hb'
     · exact absurd ⟨b,h1,h2⟩ (hoff j RB)
   · have in_ : ∀ {i},lv (hpI fn.ntmps m s.ps x) i->DO (Gu N (λ_=>undef) i)=some q-> ∃p∈N,p.1=i/\DO p.2=some q:=λ{i} hi hb=>by
      by_cases RB:i∈N.map (·.1)
      · obtain⟨p,hp,rfl⟩:=AQY.1 RB
        rw[hν p hp] at hb;exact⟨p,hp,rfl,hb⟩
      · exact absurd hi (hoff i RB)
     obtain⟨p,a1,a2,a3⟩:=in_ hi h1;obtain⟨p',b1,b2,b3⟩:=in_ hj h2;have:p=p':=VE (z3▸hnd) a1 b1 (k:=q) (by rw[a3];simp) (by rw[b3];simp);exact hij (by rw[<-a2,<-b2,this])
   · obtain⟨j,hj,rfl⟩:=AQY.1 hp
     obtain⟨b',q1,q2⟩:=z5 j hj;exact⟨rfl,b',hon j b' q1,q2⟩
end
theorem FJ {P:Program} {Θ:Kb} {l:List (FuncId × FE)} {g:FuncId} {fn:Func} {c:Code} {s:D0} {m:Nat} {Bt:Nat->List Nat} {C:Bs (TT s.rs × ET s.ps)} {A:Type} {q:A->TT s.rs × ET s.ps} {F:Nat->PT s.ps->Option A} (hm:P.follows .mixedOrders=true) (hΘ:Θ.ok P=true) (ho:vY P l) (hf:P.funcs[g]? =some fn) (hb:fn.body=some c) (hc:JM Bt c=true) (hn:s.ps.length<=fn.ntmps) (hg:LR P g=true) (hM:fn.ntmps+KE s.ps<=m) (hX:(fxP s.ps fn.ntmps).all (λj=>C.N.f.contains j)=true)
 (hF : ∀k x,s.f k x=(F k x).map q) (hl:obs Θ (look l) Bt C c 0 (K0I Θ s.rs fn.results.toList s.ps fn.ntmps) True) (hd : ∀k x,Ae q (F k x) (fL (tmI fn.ntmps s.ps x) λtm=>fH (hpI fn.ntmps m s.ps x) λhp=>den Θ (look l) Bt C c 0 (K0I Θ s.rs fn.results.toList s.ps fn.ntmps) k tm hp)):UB P g s :=
 ⟨hg,λk=>AHP hm hΘ (RK (vY.upTo ho)) hf hb hc hn hM hX hl λx r hr=>by
   rw[hF] at hr;obtain⟨a,ha,rfl⟩:=AQl.1 hr;have h2:=hd k x;unfold Ae at h2;have:=h2 a ha;rw[jV,jW] at this;exact this⟩
end
section
def AHQ (tm:List AV) (hp:List AB) (e:TypeId) (fs:List NF):List ResultVar->Option (Bool × NT fs)
 | [.tmp q]=>match AW tm (.tmp q) with
   | .val [.Mq]=>some (true,ABj fs)
   | .val [.ptr j 0]=>match hp[j]? with
     | some (.cells .mine e' cs)=>if e'=e then(match rdN hp fs cs with
       | some x=>some (false,x)
       | none=>none) else none
     | _=>none
   | _=>none
 | _=>none
def KP (e:TypeId) (fs:List NF) (vs:List ResultVar):F0 (Bool × NT fs):=λk ex tm hp=>match ex with
 | .exit _=> .non
 | _=>ofO (AHQ tm hp e fs vs)
section
variable {P:Program} {Θ:Kb} {S:FuncId->Option FE} {U0:Nat->Prop} {ν:Nat->Value} {tm:List AV} {hp:List AB} {w0:St} {w:World} {a:Act}
theorem mR (I:Inv U0 ν tm hp w0 a w) {U:Nat->Prop} (hU : ∀k,k<w.heap.size->U k->Un U0 ν (lv hp) k) : ∀ {fs:List NF} {cs:List AC} {x:NT fs} {vs:List Value},Cu U ν hp cs->rdN hp fs cs=some x->CZ (Cw U0 ν (lv hp) w) cs vs->NfR U w fs x vs
 | [],[],x,vs,_,h,hr=>by
   cases vs with
   | nil=>rfl
   | cons _ _=>exact hr.elim
 | [],_::_,x,vs,_,h,hr=>by simp[rdN] at h
 | .ty t::l,cs,x,vs,hm,h,hr=>by
   simp only[rdN] at h;split at h
   · rename_i x1 cs1 hx
     split at h
     · rename_i y hy
       injection h with h;subst h;obtain⟨v1,v2,e1,e2,e3,e4⟩:=Ll I hU hm hx hr;exact⟨v1,v2,e1,e2,mR I hU e4 hy e3⟩
     · cases h
   · cases h
 | .nil::l,[],x,vs,_,h,hr=>by simp[rdN] at h
 | .nil::l,c::cs,x,vs,hm,h,hr=>by
   cases c with
   | Bx =>
     simp only[rdN] at h
     match vs,hr with
     | v::vs,hr=>exact⟨vs,by rw[show v= .slice none 0 0 from hr.1],mR (fs:=l) I hU (λj e t xs hj=>hm j e t xs (APp _ hj)) h hr.2⟩
     | [],hr=>exact hr.elim
   | _=>simp[rdN] at h
theorem AIz {g:FuncId} {fn:Func} {c:Code} {s:cO} {k k1:Nat} {Bt:Nat->List Nat} {C:Bs (Bool × NT s.fs)} (hm:P.follows .mixedOrders=true) (hΘ:Θ.ok P=true) (hS:F3 P S k) (hf:P.funcs[g]? =some fn) (hb:fn.body=some c) (hc:JM Bt c=true) (hn:s.ps.length<=fn.ntmps)
 (hl:obs Θ S Bt C c 0 (KP s.e s.fs fn.results.toList) True) (hd : ∀x r,s.f k1 x=some r->(den Θ S Bt C c 0 (KP s.e s.fs fn.results.toList) k (JL fn.ntmps s.ps x) (List.replicate fn.ntmps .gone)).run=some r):POk P g s k1:=by
 intro x r hr U w vs hU AB7;have rE : ∀j,¬lv (List.replicate fn.ntmps AB.gone) j:=λj ⟨b,h1,h2⟩=>by
  rw[ARA] at h1;split at h1
  · injection h1 with h1;subst h1;simp[Ej] at h2
  · cases h1
 have hun : ∀q,Un U (λ_=>undef) (lv (List.replicate fn.ntmps AB.gone)) q->U q:=λq hq=>hq.elim id λ⟨j,hj,_⟩=>absurd hj (rE j)
 have AB8:Tu (Un U (λ_=>undef) (lv (List.replicate fn.ntmps AB.gone))) w s.ps x vs:=by
  have key : ∀ {ps:List Ty} {x:TT ps} {vs:List Value},Tu U w ps x vs->Tu (Un U (λ_=>undef) (lv (List.replicate fn.ntmps AB.gone))) w ps x vs:=by
   intro ps;induction ps with
   | nil=>intro x vs h;exact h
   | cons t ts ih =>
     intro x vs h;cases vs with
     | nil=>exact h.elim
     | cons v vs =>
       obtain⟨⟨cs,h1,h2⟩,h3⟩:=h;exact⟨⟨cs,h1,h2.move ⟨AP1 _,λ_ _ _=>rfl,λq _ z=>hun q z⟩⟩,ih h3⟩
  exact key AB7
 obtain⟨hlen,hrel⟩:=c8 AB8;refine calls_of_wp hf hb ?_;refine Kf hm hΘ (w0:= {toWorld:=w,io:= [],fx:= []}) hU (λp hp=>by simp at hp) c k 0 _ _ _ hS hc hl ?_ k _ _ (AP1 _) (hd x r hr) (λ_=>undef) _ w ?_
 · intro k' e tm hp hk' hK ν a w' I
   have fin:(ofO (AHQ tm hp s.e s.fs fn.results.toList)).run=some r->a.defers= []/\ ∃v,(results fn a.tmps).run P w'= .ok v w'/\ ∃v',Ending.returned v= .returned v'/\Below w.heap.size w w'/\((r.1=true/\v'= .pointer none)\/(r.1=false/\ ∃b us,v'= .pointer (some ⟨b,0,none⟩)/\w.heap.size<=b/\w'.heap[b]? =some (.cells us.toArray s.e (0,0))/\NfR (λq=>U q\/q=b) w' s.fs r.2 us)):=by
    intro h;rw[yU] at h;have Q9:Below w.heap.size w w':=⟨I.fr.os,I.fr.tape,I.fr.output,I.fr.size,λk hk=>I.fr.block k hk (by simp)⟩;unfold AHQ at h;split at h
    · rename_i q hres
      have hrun : ∀v,a.tmps.getD q undef=v->(results fn a.tmps).run P w'= .ok v w':=λv hv=>by
       have:=RJ (P:=P) (w:=w') (a:=a) (fn:=fn) (us:= [v]) (by rw[hres];simp[AS0,TF,hv]);exact this
      split at h
      · rename_i hx
        injection h with h;subst h;have hv:a.eval (.tmp q)= .pointer none:=V7 (val_one (hx▸I.AW (.tmp q)));exact⟨I.defers,_,hrun _ hv,_,rfl,Q9, .inl ⟨rfl,rfl⟩⟩
      · rename_i j hx
        split at h
        · rename_i e' cs hb'
          split at h
          · rename_i he
            subst he;split at h
            · rename_i y hy
              injection h with h;subst h;obtain⟨hj,b,hν,hv⟩:=val_one (hx▸I.AW (.tmp q));obtain⟨b',us,h1,h2,h3,h4,h5⟩:=I.cells hb';rw[hν] at h1;injection h1 with h1;injection h1 with h1;injection h1 with h1;subst h1;refine⟨I.defers,_,hrun _ hv,_,rfl,Q9, .inr ⟨rfl,b,us,rfl,h2,h3, ?_⟩⟩;refine mR I (λk _ z=>z.elim .inl λz=> .inr ⟨j,hj,by rw[hν,z];rfl⟩) (λi e t xs hi vr k hk hu=> ?_) hy h4;rcases hu with hu | hu
              · have h1:w.heap.size<=k:=I.TB vr hk
                have:=hU k hu;omega
              · have hne:i≠j:=by
                 rintro rfl;rw[hb'] at vr;injection vr with vr;cases vr
                exact I.uo i j hne ⟨_,vr,rfl⟩ hj k hk (by rw[hν,hu];rfl)
            · cases h
          · cases h
        · cases h
      · cases h
    · cases h
   cases e with
   | normal=>exact fin hK
   | ret=>exact fin hK
   | exit id=>exact(Tree.IC hK).elim
 · refine⟨by simp[JL,cz,hlen],λi y hy=> ?_,λj b h1 h2=>absurd ⟨b,h1,h2⟩ (rE j),λi j _ hi=>absurd hi (rE i),⟨rfl,rfl,rfl,AP1 _,λ_ _ _=>rfl⟩,λp hp=>by simp at hp,rfl⟩
   unfold JL at hy;rw[ARj] at hy;split at hy
   · rename_i hi
     obtain⟨v,hv,hR⟩:=hrel i y hy;have:(vs.toArray++Array.replicate (fn.ntmps-vs.toArray.size) undef).getD i undef=v:=by
      have hlt:=(APw.1 hv).1;rw[AQZ,ASX,if_pos (by simpa using hlt)];simp[hv]
     show Gg _ _ _ _ _ ((vs.toArray++Array.replicate (fn.ntmps-vs.toArray.size) undef).getD i undef);rw[this];exact hR
   · rw[ARA] at hy
     split at hy
     · injection hy with hy;subst hy;trivial
     · cases hy
end
theorem AI0 {P:Program} {Θ:Kb} {l:List (FuncId × FE)} {g:FuncId} {fn:Func} {c:Code} {s:cO} {Bt:Nat->List Nat} {C:Bs (Bool × NT s.fs)} {A:Type} {m:A->Bool × NT s.fs} {F:Nat->TT s.ps->Option A} (hm:P.follows .mixedOrders=true) (hΘ:Θ.ok P=true) (ho:vY P l) (hf:P.funcs[g]? =some fn) (hb:fn.body=some c) (hc:JM Bt c=true) (hn:s.ps.length<=fn.ntmps) (hg:LR P g=true)
 (hF : ∀k x,s.f k x=(F k x).map m) (hl:obs Θ (look l) Bt C c 0 (KP s.e s.fs fn.results.toList) True) (hd : ∀k x,Ae m (F k x) (fL (JL fn.ntmps s.ps x) λtm=>fH (List.replicate fn.ntmps .gone) λhp=>den Θ (look l) Bt C c 0 (KP s.e s.fs fn.results.toList) k tm hp)):FPk P g s :=
 ⟨hg,λk=>AIz (k:=k) (k1:=k) hm hΘ (RK ho.upTo) hf hb hc hn hl λx r hr=>by
   rw[hF] at hr;obtain⟨a,ha,rfl⟩:=AQl.1 hr;have:=hd k x;unfold Ae at this;have:=this a ha;rw[jV,jW] at this;exact this⟩
end
section
theorem mS {x c:Int} (h:0<=x):Int.tdiv x c=x/c:=AQd h
theorem mT {x c:Int} (h:0<=x):Int.tmod x c=x%c:=AQr h
theorem vu {y:Int} (h:0<=y) (h1:y<18446744073709551616):IntKind.u64.wrap y=y:=by rw[IntKind.wrap_u64];omega
theorem mU {y:Int} (h : -9223372036854775808<=y) (h1:y<9223372036854775808):wrap64 y=y:=by unfold wrap64;omega
theorem WG {x:Int} :shl .u64 x 1=IntKind.u64.wrap (x*2):=rfl
theorem dB {x a:Int} :shl .u64 x (mn a 10)=IntKind.u64.wrap (x*2^(mn a 10).toNat):=by
 have:(mn a 10).toNat<=10:=by unfold mn;split<;>omega
 unfold shl;rw[AQB (by show(mn a 10).toNat<=64;omega)]
theorem ALz:wr .i64 (-0)= -0:=mU (by omega) (by omega)
section
variable {A B C R:Type} {m:A->R}
theorem by_ {c:Prop} (h:c:=by first
 | assumption
 | exact rfl
 | (simp[wr, *];done)
 | (simp_all[wr];done)
 | (simp_all[wr,rd,dflt];done)
 | (dsimp only;simp only[AP3,AQW,ARy,AQb,AQ8,APx,AQR] at *;omega)
 | (simp(disch:=first | omega | (simp only[mx,mn];(repeat' split)<;>omega) | fail) only[wr,shr,shl,mS,mT,vu,mU,IntKind.wrap_u8,rd,dflt,IntKind.bits,decide_eq_true_eq,decide_eq_false_iff_not,beq_iff_eq,bne_iff_ne] at *;first | done | omega | (simp only[AP3,AQW,ARy,AQb,AQ8,APx,AQR] at *;omega))
 | (simp(disch:=first | omega | (simp only[mx,mn];(repeat' split)<;>omega) | fail) [wr,shr,shl,mS,mT,vu,mU,IntKind.wrap_u8,rd,dflt,IntKind.bits, *];done)
 | (simp_all(disch:=first | omega | (simp only[mx,mn];(repeat' split)<;>omega) | fail) [wr,shr,shl,mS,mT,vu,mU,IntKind.wrap_u8,rd,dflt,IntKind.bits];done)
 | (simp only[wr,wrap64,mn,mx] at *;(repeat' split)<;>omega)
 | (simp only[wr,WG,dB,ASY] at *;first | done | (simp[*];done))
 | fail):c:=h
theorem Ae.p {c:Prop} [d:Decidable c] {X:Option A} {Y Z:Tree R} (h:c) (k:Ae m X Y):Ae m X (.Lb c Y Z):=Ae.ALx h k
theorem Ae.n {c:Prop} [d:Decidable c] {X:Option A} {Y Z:Tree R} (h : ¬c) (k:Ae m X Z):Ae m X (.Lb c Y Z):=Ae.ALy h k
theorem eqs {D:Type} {x y:Option B} {q:B->D} (h:x=y):x.map q=y.map q:=congrArg _ h
theorem Ae.t {x:Option A} {y:Option R} (h:x.map m=y:=by first | exact rfl | exact eqs (if_pos by_).symm | (refine eqs ?_;congr 1<;>exact by_) | (refine eqs (Eq.trans ?_ (if_pos by_).symm);congr 1<;>exact by_)):Ae m x (.iE y .done):=Ae.tail h
theorem Ae.c {x:Option B} {q:B->C} {y:Option C} {F:B->Option A} {G:C->Tree R} (h : ∀t,x=some t->Ae m (F t) (G (q t))) (hy:x.map q=y:=by first | exact rfl | (rw[<-ASY];exact rfl) | (simp only[wr,WG,dB,ASY];exact rfl) | (refine eqs ?_;congr 1<;>exact by_)):Ae m (x.bind F) (.iE y G):=Ae.call hy h
theorem Ae.ag {x:Option B} {t:B} {q:B->C} {y:Option C} {X:Option A} {G:C->Tree R} (hy:x.map q=y) (hx:x=some t) (h:Ae m X (G (q t))):Ae m X (.iE y G):=Ae.again hx hy h
theorem Ae.sb {a:B} {F:B->Option A} {y:Tree R} (h:Ae m (F a) y):Ae m ((some a).bind F) y:=h
theorem Ae.d {a:A} {r:R} (h:r=m a:=by first | exact rfl | (simp[wr, *];done) | (rw[ALz];exact rfl) | (simp only[wr,ASY];exact rfl) | (refine congrArg _ ?_;exact by_)):Ae m (some a) (.done r):=Ae.now h
end
theorem Ae.it {A R:Type} {m:A->R} {c:Prop} {X Y:Option A} {Z U:Tree R} [d:Decidable c] [d1:Decidable c] (h1:c->Ae m X Z) (h2 : ¬c->Ae m Y U):Ae m (if c then X else Y) (.Lb c Z U):=Ae.ite (λh=>Ae.p h (h1 h)) (λh=>Ae.n h (h2 h))
theorem Ae.ip {A R:Type} {m:A->R} {c:Prop} {X Y:Option A} {Z:Tree R} [d:Decidable c] (h:c) (k:Ae m X Z):Ae m (if c then X else Y) Z:=by rw[if_pos h];exact k
theorem Ae.ir {A R:Type} {m:A->R} {c:Prop} {X Y:Option A} {Z:Tree R} [d:Decidable c] (h : ¬c) (k:Ae m Y Z):Ae m (if c then X else Y) Z:=by rw[if_neg h];exact k
theorem go {p:Prop} (h:p:=by
 (conv=>arg 3;whnf)
 repeat' (first | exact Ae.none | exact Ae.d | exact Ae.t | (with_reducible refine Ae.sb ?_) | (refine Ae.c λt ht=> ?_;conv=>arg 3;whnf) | (refine Ae.p by_ ?_;conv=>arg 3;whnf) | (refine Ae.n by_ ?_;conv=>arg 3;whnf) | (refine Ae.ip (by first | assumption | exact rfl | (simp[wr, *];done) | fail) ?_) | (refine Ae.ir (by first | assumption | exact rfl | (simp[wr, *];done) | fail) ?_) | (refine Ae.ag rfl (by assumption) ?_;conv=>arg 3;whnf) | refine Ae.ite (λh=> ?_) (λh=> ?_))):p:=h
theorem goq {p:Prop} (h:p:=by
 (conv=>arg 3;whnf)
 repeat' (first | exact Ae.none | exact Ae.now rfl | exact Ae.tail rfl | (with_reducible refine Ae.sb ?_) | (refine Ae.call (by first | exact rfl | (rw[<-ASY];exact rfl) | (simp only[wr,WG,dB,ASY];exact rfl)) λt ht=> ?_;conv=>arg 3;whnf) | (refine Ae.p (by first | assumption | exact rfl | (simp[wr, *];done) | fail) ?_;conv=>arg 3;whnf) | (refine Ae.n (by first | assumption | exact rfl | (simp[wr, *];done) | fail) ?_;conv=>arg 3;whnf) | (refine Ae.it (λh=> ?_) (λh=> ?_)<;>(conv=>arg 3;whnf)) | (refine Ae.ip (by first | assumption | exact rfl | (simp[wr, *];done) | fail) ?_) | (refine Ae.ir (by first | assumption | exact rfl | (simp[wr, *];done) | fail) ?_) | (refine Ae.ag rfl (by assumption) ?_;conv=>arg 3;whnf) | refine Ae.ite (λh=> ?_) (λh=> ?_) | (refine Ae.p (by first | (simp_all[wr];done) | (simp only[wr,WG,dB,decide_eq_true_eq];omega) | fail) ?_;conv=>arg 3;whnf) | (refine Ae.n (by first | (simp_all[wr];done) | (simp only[wr,WG,dB,decide_eq_true_eq];omega) | fail) ?_;conv=>arg 3;whnf))):p:=h
end
section
section
variable {U:Nat->Prop} {w w':World} {e:TypeId} {k:IntKind}
theorem AEr {xs:List Int} {cs:List Value} (h:Rd U w (.row e (.int k)) xs cs) : ∃A c,cs= [.slice A xs.length c]/\Kd.C (Kd.int k) w A xs.length xs/\xs.length<=c:=by
 obtain⟨A,c,h1,h2,h3⟩:=h.K;exact⟨A,c,h1,h3,h2⟩
theorem MD {A:Option Addr} {c:Nat} {xs:List Int} (hc:Kd.C (Kd.int k) w A xs.length xs) (hl:xs.length<=c):Rd (λ_=>False) w (.row e (.int k)) xs [.slice A xs.length c]:=by
 refine⟨A,c,rfl,hl,hc.2.1,λhn=> ?_⟩;obtain⟨ad,ha,hcell⟩:=hc.2.2 hn;refine⟨ad,ha,λj p hp=>⟨[.int k p],rfl,λi u hu W hs hb=> ?_⟩⟩;obtain⟨c',hc1,hc2,hc3⟩:=hcell j p hp;have hc2:c'= [.int k p]:=hc2;subst hc2;have h:w.cell? (ad.add (j*(Ty.int k).size+i))=some u:=hc3 i u hu;have hlt:=World.block_lt_of_cell? w _ h;show W.cell? (ad.add (j*(Ty.int k).size+i))=some u;rw[<-h];unfold World.cell?;rw[hb _ hlt (λq=>q)]
theorem ABR {r:Bool} {v:Value} (h:rF U w [.bool] (r,()) v):v= .bool r:=by
 obtain⟨us,rfl,h⟩:=h
 match us,h with
 | [u],⟨⟨cs,h1,h2⟩,_⟩ =>
   have h2:cs= [.bool r]:=h2;subst h2;exact h1
theorem Tu.cons {t:Ty} {ts:List Ty} {x:TT (t::ts)} {vs:List Value} (h:Tu U w (t::ts) x vs) : ∃cs vs',vs=O9 cs::vs'/\Rd U w t x.1 cs/\Tu U w ts x.2 vs':=by
 cases vs with
 | nil=>exact h.elim
 | cons v vs=>obtain⟨⟨cs,rfl,h1⟩,h2⟩:=h;exact⟨cs,vs,rfl,h1,h2⟩
theorem AEs {U':Nat->Prop} {n:Nat} {ok:Nat->Prop} {xs:List Int} {v:Value} (h:Kd.R (Kd.int k) e w' n ok v xs) : ∃inner,w'.ownsRow n e (kd (.int k)).sz v xs.length inner/\Bw (λy c=>Rd U' w' (.int k) y c) (kd (.int k)).sz xs inner:=by
 obtain⟨_,inner,ho,hr⟩:=h;exact⟨inner,ho,hr.HW λ_ _ z=>z⟩
end
end
end Go.Proofs.YtjocbnjpjihpnaaGreatW.HU
end
