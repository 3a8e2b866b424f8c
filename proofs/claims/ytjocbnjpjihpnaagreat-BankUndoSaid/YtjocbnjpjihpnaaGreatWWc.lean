/- Words for walks over printed functions: those that are used here, as a program has laid them. -/
import Derived.Test.YtjocbnjpjihpnaaGreatWWb
set_option linter.unusedSimpArgs false
section
namespace Go.Proofs.YtjocbnjpjihpnaaGreatW.Gb
open Go.RowKit Go.Proofs.YtjocbnjpjihpnaaGreatW.AD Go.Proofs.YtjocbnjpjihpnaaGreatW.AR Go.Proofs.YtjocbnjpjihpnaaGreatW.AY
set_option linter.unusedVariables false
set_option linter.unusedSectionVars false
set_option linter.unusedSimpArgs false
section
def tmpsOf (ops:Array Oper) (o:Oper):List Tmp :=
 (reads o.op).filterMap (λ| .tmp t=>some t | _=>none)++o.dst.toList++(match o.guard with
   | some (j,_)=>((ops[j]?).bind (·.dst)).toList
   | none=> [])
def needs (ops:Array Oper) (i:Nat):List Nat:=match ops[i]? with
 | some o=>N1 .any o
 | none=> []
def N5 (ops:Array Oper) (B:List Nat):Bool:=(List.range ops.size).all λd=>(decide (B.getD d 0<2^d)&&(needs ops d).all (λq=>decide (q<d)))&&(List.range d).all λi=> !(B.getD d 0).testBit i || (needs ops d).any λq=>q==i || (decide (q<d)&&(B.getD q 0).testBit i)
def mg (B:List Nat) (i j:Nat):Bool:=if j<i then(B.getD i 0).testBit j else(B.getD j 0).testBit i
def Zv (ops:Array Oper) (B:List Nat):Bool:=(List.range ops.size).all λi=>match ops[i]? with
 | some o=>(List.range ops.size).all λj=>j==i || mg B i j || (match (ops[j]?).bind (·.dst) with
   | some t=> !(tmpsOf ops o).contains t
   | none=>true)
 | none=>true
def AEn (ops:Array Oper) (B:List Nat):Bool:=N5 ops B&&Zv ops B
def l7 (d:Option Tmp) (δ:HC):List Nat:=(match δ.nw with
 | some _=>d.toList
 | none=> [])++δ.ch.map (·.1)
def l8:List (Nat × AB)->Nat->Option AB
 | [],_=>none
 | (j,b)::l,q=>if j=q then some b else l8 l q
def wrB (d:Option Tmp) (q:Nat) (δ:HC):Option AB:=match δ.nw,d with
 | some b,some t=>if t=q then some b else l8 δ.ch q
 | _,_=>l8 δ.ch q
def quiet:Op->Bool
 | .move _ | .assign _ | .nilCheck _ | .pick _ _ _ | .unOp _ _ _ | .extract _ _ | .convert _ _ _ | .fieldAddr _ _ _=>true
 | _=>false
def fts (tm:List AV) (o:Oper) (δ:HC):List Nat:=(match quiet o.op with
 | true=> []
 | false=>(reads o.op).flatMap λx=>rC (AQ tm x))++l7 o.dst δ
def allI {A:Type} (f:A->Nat->Bool):Nat->List A->Bool
 | _,[]=>true
 | j,a::l=>f a j&&allI f (j+1) l
theorem ez {A:Type} (f:A->Nat->Bool) : ∀(l:List A) (j:Nat),allI f j l=(l.zipIdx j).all λp=>f p.1 p.2
 | [],_=>rfl
 | a::l,j=>by simp only[allI,List.zipIdx_cons,APQ,ez f l (j+1)]
theorem ACD {A:Type} (f:A->Nat->Bool) (l:List A):allI f 0 l=l.zipIdx.all λp=>f p.1 p.2:=ez f l 0
section
variable {R:Type}
noncomputable def Td (Θ:JE) (S:FuncId->Option FE) (k:Nat) (ops:Array Oper) (B:List Nat) (l:List Oper):Nat->List (List Nat × List Nat)->List AV->List AB->(List AV->List AB->Tree R)->Tree R :=
 List.rec (motive:=λ_=>Nat->List (List Nat × List Nat)->List AV->List AB->(List AV->List AB->Tree R)->Tree R) (λ_ _ tm hp K=>K tm hp) (λo _ ih i rec tm hp K =>
  let go:=stepT Θ S k tm hp o.dst o.op λx δ=>fNs (fts tm o δ) λfa=>fNs (l7 o.dst δ) λwa=>if(hok o.dst hp δ&&(allI (λp j=>(B.getD i 0).testBit j || (p.2.all (λq=> !fa.contains q)&&wa.all (λq=> !p.1.contains q))) 0 rec))=true then Ub rec (fa,wa) λZw=>SP tm o.dst x λEl=>XT o.dst hp δ λB0=>ih (i+1) Zw El B0 K else .non
  match o.guard with
  | none=>go
  | some (j,want)=>match (ops[j]?).bind (·.dst) with
    | some t=>match AQ tm (.tmp t) with
      | .val [.ro .bool b]=>Tree.J2 ((b:Bool)=want) go (Ub rec ([],[]) λZw=>SP tm o.dst .un λEl=>ih (i+1) Zw El hp K)
      | .un=>Ub rec ([],[]) λZw=>SP tm o.dst .un λEl=>ih (i+1) Zw El hp K
      | _=> .non
    | none=> .non) l
theorem mh (Θ:JE) (S:FuncId->Option FE) (k:Nat) (ops:Array Oper) (B:List Nat) (o:Oper) (rest:List Oper) (i:Nat) (rec:List (List Nat × List Nat)) (tm:List AV) (hp:List AB) (K:List AV->List AB->Tree R):Td Θ S k ops B (o::rest) i rec tm hp K=(
 let go:=stepT Θ S k tm hp o.dst o.op λx δ=>fNs (fts tm o δ) λfa=>fNs (l7 o.dst δ) λwa=>if(hok o.dst hp δ&&(allI (λp j=>(B.getD i 0).testBit j || (p.2.all (λq=> !fa.contains q)&&wa.all (λq=> !p.1.contains q))) 0 rec))=true then Ub rec (fa,wa) λZw=>SP tm o.dst x λEl=>XT o.dst hp δ λB0=>Td Θ S k ops B rest (i+1) Zw El B0 K else .non
 match o.guard with
 | none=>go
 | some (j,want)=>match (ops[j]?).bind (·.dst) with
   | some t=>match AQ tm (.tmp t) with
     | .val [.ro .bool b]=>Tree.J2 ((b:Bool)=want) go (Ub rec ([],[]) λZw=>SP tm o.dst .un λEl=>Td Θ S k ops B rest (i+1) Zw El hp K)
     | .un=>Ub rec ([],[]) λZw=>SP tm o.dst .un λEl=>Td Θ S k ops B rest (i+1) Zw El hp K
     | _=> .non
   | none=> .non):=rfl
end
structure Out where
 x:AV
 δ:HC
 ft:List Nat
def iO (Θ:JE) (S:FuncId->Option FE) (k:Nat) (ops:Array Oper) (tm:List AV) (hp:List AB) (o:Oper) (u:Out):Prop :=
 (step Θ S k tm hp o.dst o.op=some (u.x,u.δ)/\hok o.dst hp u.δ=true/\u.ft=fts tm o u.δ/\(o.guard=none\/ ∃j want t b,o.guard=some (j,want)/\(ops[j]?).bind (·.dst)=some t/\AQ tm (.tmp t)= .val [.ro .bool b]/\(b:Bool)=want)) \/
 (u.x= .un/\u.δ=H0/\u.ft= []/\ ∃j want t,o.guard=some (j,want)/\(ops[j]?).bind (·.dst)=some t/\ACE want (AQ tm (.tmp t)))
section
variable (ops:Array Oper) (us:Nat->Out) (IP:List AV) (GZ:List AB)
def JL (m:Nat):Option Tmp:=(ops[m]?).bind (·.dst)
def wt (t m:Nat):Option AV:=if JL ops m=some t then some (us m).x else none
def wh (q m:Nat):Option AB:=wrB (JL ops m) q (us m).δ
def SQ (D:Nat->Bool) (n:Nat):List AV:=(List.range IP.length).map λt=>lw (wt ops us t) (IP.getD t .FA) D n
def SR (D:Nat->Bool) (n:Nat):List AB:=(List.range GZ.length).map λq=>lw (wh ops us q) (GZ.getD q .gone) D n
end
section
variable {ops:Array Oper} {us:Nat->Out} {IP:List AV} {GZ:List AB}
theorem N6 {D:Nat->Bool} {n t:Nat} :(SQ ops us IP D n)[t]? =if t<IP.length then some (lw (wt ops us t) (IP.getD t .FA) D n) else none:=by
 unfold SQ;rw[APA];by_cases h:t<IP.length
 · rw[APd h,if_pos h];rfl
 · rw[ANq (by simpa using h),if_neg h];rfl
theorem N7 {D:Nat->Bool} {n t:Nat} :(SR ops us GZ D n)[t]? =if t<GZ.length then some (lw (wh ops us t) (GZ.getD t .gone) D n) else none:=by
 unfold SR;rw[APA];by_cases h:t<GZ.length
 · rw[APd h,if_pos h];rfl
 · rw[ANq (by simpa using h),if_neg h];rfl
theorem mj {D:Nat->Bool} :SQ ops us IP D 0=IP:=by
 apply AOP;intro t;rw[N6];by_cases h:t<IP.length
 · rw[if_pos h];simp[lw,h]
 · rw[if_neg h,ANq (by omega)]
theorem mo {D:Nat->Bool} :SR ops us GZ D 0=GZ:=by
 apply AOP;intro t;rw[N7];by_cases h:t<GZ.length
 · rw[if_pos h];simp[lw,h]
 · rw[if_neg h,ANq (by omega)]
theorem Uf {hp:List AB} {rq:Lq} : ∀ {fs:List FK} {cs:List AC} {x y:FT fs} {b:Nat},JK hp fs cs=some x->(∀j∈Gi fs cs,j∈(DX hp rq fs y cs b).2.map (·.1))/\ ∀i,i<Em fs->b+i∈(DX hp rq fs y cs b).2.map (·.1)
 | [],[],x,y,b,h=>⟨λj hj=>by simp[Gi] at hj,λi hi=>by simp[Em] at hi⟩
 | [],_::_,x,y,b,h=>by simp[JK] at h
 | .ty t::l,cs,x,y,b,h=>by
   simp only[JK] at h;split at h
   · split at h
     · rename_i x1 cs' hy
       split at h
       · rename_i ys hys
         obtain⟨rfl,_⟩:=Jp hy;exact Uf (y:=y.2) hys
       · cases h
     · cases h
   · cases h
 | .row kp e t::l,[],x,y,b,h=>by cases kp<;>simp[JK] at h
 | .row true e t::l,c::cs,x,y,b,h=>by
   cases c with
   | own j =>
     simp only[JK] at h;split at h
     · rename_i lq e' t' xs hb
       split at h
       · rename_i q
         obtain⟨rfl,rfl⟩:=q;split at h
         · rename_i ys hys
           obtain⟨q1,q2⟩:=Uf (rq:=rq) (y:=y.2) (b:=b) hys;have e3:(DX hp rq (.row true e' t'::l) y (.own j::cs) b).2=(j, .row lq e' t' y.1)::(DX hp rq l y.2 cs b).2:=(by simp only[DX,hb]);rw[e3];refine⟨λi hi=> ?_,λi hi=>ANG _ (q2 i hi)⟩;rcases ANM.1 hi with rfl | hi
           · exact ANH
           · exact ANG _ (q1 i hi)
         · cases h
       · cases h
     · cases h
   | _=>simp[JK] at h
 | .row false e t::l,c::cs,x,y,b,h=>by
   have key : ∀ {ys:FT l},JK hp l cs=some ys-> ∀(ids:List Nat) (E:List (Nat × AB)),(∀j∈ids,j∈E.map (·.1)\/j∈Gi l cs)->(b∈E.map (·.1))->(∀j∈ids,j∈(E++(DX hp rq l y.2 cs (b+1)).2).map (·.1))/\ ∀i,i<Em l+1->b+i∈(E++(DX hp rq l y.2 cs (b+1)).2).map (·.1):=by
    intro ys hys ids E hE hb;obtain⟨q1,q2⟩:=Uf (rq:=rq) (y:=y.2) (b:=b+1) hys;refine⟨λj hj=> ?_,λi hi=> ?_⟩
    · rw[AOe,ANp]
      exact(hE j hj).imp id (q1 j)
    · rw[AOe,ANp]
      rcases APJ i with h0 | h0
      · subst h0;exact .inl hb
      · have:=q2 (i-1) (by omega)
        rw[show b+1+(i-1)=b+i by omega] at this;exact .inr this
   cases c with
   | own j =>
     have fin : ∀ {lq:Lq} {e':TypeId} {t':Ty} {xs:List (T t')},(if h:e'=e/\t'=t then(match JK hp l cs with
      | some y=>h.2▸some (xs,y)
      | none=>none) else none)=some x->(∀i∈j::Gi l cs,i∈((b,AB.row rq e t y.1)::(j,AB.used)::(DX hp rq l y.2 cs (b+1)).2).map (·.1))/\ ∀i,i<Em l+1->b+i∈((b,AB.row rq e t y.1)::(j,AB.used)::(DX hp rq l y.2 cs (b+1)).2).map (·.1):=by
      intro lq e' t' xs h;split at h
      · rename_i q
        obtain⟨rfl,rfl⟩:=q;split at h
        · rename_i ys hys
          exact key hys (j::Gi l cs) [(b,AB.row rq e' t' y.1),(j,AB.used)] (λi hi=>by
           rcases ANM.1 hi with rfl | hi
           · exact .inl (by simp)
           · exact .inr hi) (by simp)
        · cases h
      · cases h
     simp only[JK] at h;split at h
     · exact fin (lq:= .mine) h
     · exact fin (lq:= .mine) h
     · cases h
   | Bo =>
     simp only[JK] at h;split at h
     · rename_i ys hys
       exact key hys (Gi l cs) [(b,AB.row rq e t y.1)] (λi hi=> .inr hi) (by simp)
     · cases h
   | _=>simp[JK] at h
theorem Ug {hp:List AB} {tm:List AV} {rq:Lq} : ∀ {ps:List PK} {os:List Operand} {x:PT ps} {y:ET ps} {b:Nat},CJ hp tm ps os=some x->(∀j∈Dq hp tm ps os,j∈(En hp tm rq ps y os b).map (·.1))/\ ∀i,i<JR ps->b+i∈(En hp tm rq ps y os b).map (·.1)
 | [],[],x,y,b,h=>⟨λj hj=>by simp[Dq] at hj,λi hi=>by simp[JR] at hi⟩
 | [],_::_,x,y,b,h=>by simp[CJ] at h
 | .ty _::_,[],x,y,b,h=>by simp[CJ] at h
 | .st _ _::_,[],x,y,b,h=>by simp[CJ] at h
 | .KR _ _::_,[],x,y,b,h=>by simp[CJ] at h
 | .ty t::ts,o::os,x,y,b,h=>by
   simp only[CJ] at h;split at h
   · split at h
     · split at h
       · rename_i ys hys
         exact Ug (ps:=ts) (os:=os) (y:=y) hys
       · cases h
     · cases h
   · cases h
 | .st e fs::ts,o::os,x,y,b,h=>by
   simp only[CJ] at h;split at h
   · rename_i j hc
     split at h
     · rename_i lq e' cs hb
       split at h
       · rename_i he
         subst he;split at h
         · rename_i x1 hx1
           split at h
           · rename_i ys hys
             obtain⟨q1,q2⟩:=Uf (rq:=rq) (y:=y.1) (b:=b) hx1;obtain⟨z1,z2⟩:=Ug (rq:=rq) (ps:=ts) (os:=os) (y:=y.2) (b:=b+Em fs) hys;have hid:Dq hp tm (.st e' fs::ts) (o::os)=j::(Gi fs cs++Dq hp tm ts os):=(by simp only[Dq,hc,hb]);have haf:En hp tm rq (.st e' fs::ts) y (o::os) b=(j, .cells lq e' (DX hp rq fs y.1 cs b).1)::((DX hp rq fs y.1 cs b).2++En hp tm rq ts y.2 os (b+Em fs)):=(by simp only[En,hc,hb]);rw[hid,haf];refine⟨λi hi=> ?_,λi hi=> ?_⟩
             · rw[ANx,AOe]
               rcases ANM.1 hi with rfl | hi
               · exact ANH
               · refine ANG _ (ANp.2 ((ANp.1 hi).imp (q1 i) (z1 i)))
             · rw[ANx,AOe]
               refine ANG _ (ANp.2 ?_);rcases ANs i (Em fs) with hl | hl
               · exact .inl (q2 i hl)
               · have:=z2 (i-Em fs) (by have:i<Em fs+JR ts:=hi;omega)
                 rw[show b+Em fs+(i-Em fs)=b+i by omega] at this;exact .inr this
           · cases h
         · cases h
       · cases h
     · cases h
   · cases h
 | .KR e t::ts,o::os,x,y,b,h=>by
   simp only[CJ] at h;split at h
   · rename_i j hc
     split at h
     · rename_i lq e' t' xs hb
       split at h
       · rename_i q
         obtain⟨rfl,rfl⟩:=q;split at h
         · rename_i ys hys
           obtain⟨z1,z2⟩:=Ug (rq:=rq) (ps:=ts) (os:=os) (y:=y.2) (b:=b) hys;have hid:Dq hp tm (.KR e' t'::ts) (o::os)=j::Dq hp tm ts os:=(by simp only[Dq,hc]);have haf:En hp tm rq (.KR e' t'::ts) y (o::os) b=(j, .row lq e' t' y.1)::En hp tm rq ts y.2 os b:=(by simp only[En,hc,hb]);rw[hid,haf];refine⟨λi hi=> ?_,λi hi=>ANG _ (z2 i hi)⟩;rcases ANM.1 hi with rfl | hi
           · exact ANH
           · exact ANG _ (z1 i hi)
         · cases h
       · cases h
     · cases h
   · cases h
theorem Rh {hp B0:List AB} {tm El:List AV} : ∀ {ps:List PK} {os:List Operand},(∀o∈os,AQ tm o=AQ El o)->(∀o∈os,Cg hp B0 (cellsOf (AQ tm o)))->Y7 B0 El ps os=Y7 hp tm ps os
 | [],os,_,_=>by cases os<;>rfl
 | .ty _::_,[],_,_=>rfl
 | .st _ _::_,[],_,_=>rfl
 | .KR _ _::_,[],_,_=>rfl
 | .ty t::ts,o::os,h1,h2=>by
   simp only[Y7,<-h1 o ANH,(h2 o ANH).Kb,Rh (ps:=ts) (os:=os) (λo ho=>h1 o (ANG _ ho)) (λo ho=>h2 o (ANG _ ho))]
 | .st _ _::ts,o::os,h1,h2=>Rh (ps:=ts) (os:=os) (λo ho=>h1 o (ANG _ ho)) (λo ho=>h2 o (ANG _ ho))
 | .KR _ _::ts,o::os,h1,h2=>Rh (ps:=ts) (os:=os) (λo ho=>h1 o (ANG _ ho)) (λo ho=>h2 o (ANG _ ho))
theorem rD {Θ:JE} {S:FuncId->Option FE} {k:Nat} {tm El:List AV} {hp B0:List AB} {R:Type} {K:AV->HC->Tree R} {d:Option Tmp} : ∀ {o:Op},quiet o=true->(∀x∈reads o,AQ tm x=AQ El x)->stepT Θ S k tm hp d o K=stepT Θ S k El B0 d o K
 | .move x,_,h1=>by simp only[stepT,h1 x (by simp[reads])]
 | .assign x,_,h1=>by simp only[stepT,h1 x (by simp[reads])]
 | .nilCheck x,_,h1=>by simp only[stepT,h1 x (by simp[reads])]
 | .pick c x y,_,h1=>by simp only[stepT,h1 x (by simp[reads]),h1 y (by simp[reads]),h1 c (by simp[reads])]
 | .unOp b t x,_,h1=>by simp only[stepT,h1 x (by simp[reads])]
 | .extract x i,_,h1=>by simp only[stepT,h1 x (by simp[reads])]
 | .convert s t x,_,h1=>by simp only[stepT,h1 x (by simp[reads])]
 | .fieldAddr s x f,_,h1=>by simp only[stepT,h1 x (by simp[reads])]
theorem ACF {Θ:JE} {S:FuncId->Option FE} {k:Nat} {tm El:List AV} {hp B0:List AB} {o:Oper} {x:AV} {δ:HC} (h:step Θ S k tm hp o.dst o.op=some (x,δ)) (h1 : ∀x∈reads o.op,AQ tm x=AQ El x) (h2 : ∀q∈fts tm o δ,hp[q]? =B0[q]?):step Θ S k El B0 o.dst o.op=some (x,δ):=by
 cases hq:quiet o.op with
 | true=>rw[<-h];exact congrArg Tree.run (rD hq h1).symm
 | false =>
 have hid : ∀x∈reads o.op,∀j∈rC (AQ tm x),hp[j]? =B0[j]? :=λx hx j hj=>h2 j (ANP _ (by rw[hq];exact AOq.2 ⟨x,hx,hj⟩))
 by_cases XS : ∃c g s nm,o.op= .call c/\c.callee= .value (.func g)/\S g=some (.io s nm)
 · obtain⟨c,g,s,nm,ho,hc,hs⟩:=XS
   rw[ho] at h h1 hid ⊢;unfold step at h ⊢;simp only[stepT,hc,hs] at h ⊢;split at h
   · rename_i y hy
     split at h
     · rename_i hl
       obtain⟨z,hz,hr⟩:=Tree.Rf h;have hr:some _=some (x,δ):=hr;injection hr with hr;injection hr with hx hδ;subst hx hδ;have hw : ∀q∈(En hp tm (JQ (Ge hp tm s.ps c.args.toList)) s.ps z.2 c.args.toList (Zo nm (mT o.dst c.args.toList))).map (·.1),hp[q]? =B0[q]? :=λq hq=>by
        by_cases hk:q∈Dd tm s.ps c.args.toList
        · obtain⟨_,o',ho',n,hov⟩:=NK (rq:= .mine) (y:=z.2) (b:=0) hy q hk
          exact hid o' ho' q (by rw[hov];simp[rC,wG])
        · refine h2 q (ANK _ ?_)
          unfold l7;rw[AOe];refine ANK _ (ANP _ ?_);rcases e8 (rq:=JQ (Ge hp tm s.ps c.args.toList)) (y:=z.2) (b:=Zo nm (mT o.dst c.args.toList)) hy with e | ⟨e,_⟩
          · rw[e];exact hq
          · rw[e];exact P6 hq hk
       obtain⟨i1,i2⟩:=Ug (rq:=JQ (Ge hp tm s.ps c.args.toList)) (y:=z.2) (b:=Zo nm (mT o.dst c.args.toList)) hy;have hsame : ∀x∈c.args.toList,Cg hp B0 (cellsOf (AQ tm x)):=λx hx=>Ri (hid x hx)
       obtain⟨c1,c2,c3,c4⟩:=J4 (B0:=B0) (El:=El) (rq:=JQ (Ge hp tm s.ps c.args.toList)) hy (λo ho=>h1 o ho) (λo ho t=>((hsame o ho).Ee t).1) (λj hj=>hw j (i1 j hj));have c5:=Rh (ps:=s.ps) (os:=c.args.toList) (λo ho=>h1 o ho) hsame;have c6:mU B0 El s.ps c.args.toList (Zo nm (mT o.dst c.args.toList))=true:=by
        rw[<-hl];unfold mU;rw[c2,c5]
        congr 1
        rw[Bool.eq_iff_iff,ANy,ANy];refine forall_congr' λi=>forall_congr' λhi=> ?_
        unfold yw;rw[hw _ (i2 i (AOU.1 hi))]
       rw[c1];simp only[c6,if_true,c4,c5];show(s.f k y).bind _=_;rw[hz];show some _=some _;rw[c3,N8 (ps:=s.ps) (os:=c.args.toList) (λo ho=>h1 o ho)]
     · cases h
   · cases h
 · rw[<-h]
   refine congrArg Tree.run (rE _ _ _ (λc g s nm e1 e2 e3=>XS ⟨c,g,s,nm,e1,e2,e3⟩) h1 hid).symm
theorem Y8 {D:Nat->Bool} {n:Nat} :(SQ ops us IP D n).length=IP.length:=by simp[SQ]
theorem Y9 {D:Nat->Bool} {n:Nat} :(SR ops us GZ D n).length=GZ.length:=by simp[SR]
theorem zE {tm:List AV} {d:Option Tmp} {x:AV} :(Lj tm d x).length=tm.length:=by unfold Lj;split<;>simp
theorem Uh {hp:List AB} : ∀ {l:List (Nat × AB)},(DB l hp).length=hp.length
 | []=>rfl
 | _::l=>by simp[DB,Uh (l:=l)]
theorem zF {hp:List AB} {d:Option Tmp} {δ:HC} :(N3 d hp δ).length=hp.length:=by unfold N3;split<;>simp[Uh]
theorem Zx {hp:List AB} {t:Nat} (ht:t<hp.length) : ∀(l:List (Nat × AB)),(DB l hp)[t]? =some (match l8 l t with
 | some x=>x
 | none=>hp.getD t .gone)
 | []=>by simp[DB,l8,ht]
 | (j,b)::l=>by
   by_cases h:j=t
   · subst h;simp[DB,l8,Uh,ht]
   · simp only[DB,l8,if_neg h,ANf h];exact Zx ht l
theorem ACG {hp:List AB} {t:Nat} (ht:t<hp.length) (d:Option Tmp) (δ:HC):(N3 d hp δ)[t]? =some (match wrB d t δ with
 | some x=>x
 | none=>hp.getD t .gone):=by
 unfold N3 wrB;cases δ.nw with
 | none=>exact Zx ht _
 | some b =>
   cases d with
   | none=>exact Zx ht _
   | some q =>
     by_cases h:q=t
     · subst h;simp[Uh,ht]
     · simp only[if_neg h,ANf h];exact Zx ht _
theorem zG {A tm:List AV} {i:Nat} (hl:tm.length=IP.length) (hA:A.length=IP.length) (h : ∀t,t<IP.length->A[t]? =some (match wt ops us t i with
 | some x=>x
 | none=>tm.getD t .FA)):A=Lj tm (JL ops i) (us i).x:=by
 apply AOP;intro t;by_cases ht:t<IP.length
 · rw[h t ht]
   unfold wt Lj;cases hd:JL ops i with
   | none=>simp[hl,ht]
   | some d =>
     by_cases hdt:d=t
     · subst hdt;simp[hl,ht]
     · have : ¬(some d=some t):=λq=>hdt (APN q)
       simp[this,hl,ht];rw[List.getElem_set_ne hdt]
 · rw[ANq (by omega),ANq (by rw[zE];omega)]
theorem zH {A hp:List AB} {i:Nat} (hl:hp.length=GZ.length) (hA:A.length=GZ.length) (h : ∀t,t<GZ.length->A[t]? =some (match wh ops us t i with
 | some x=>x
 | none=>hp.getD t .gone)):A=N3 (JL ops i) hp (us i).δ:=by
 apply AOP;intro t;by_cases ht:t<GZ.length
 · rw[h t ht,ACG (by omega)]
   rfl
 · rw[ANq (by omega),ANq (by rw[zF];omega)]
def UQ (i j:Nat):Bool:=decide (j<i)
theorem uN {α:Type} {v:Nat->Option α} {b:α} {i:Nat} :lw v b (UQ (i+1)) (i+1)=match v i with
 | some x=>x
 | none=>lw v b (UQ i) i:=by
 have:lw v b (UQ (i+1)) i=lw v b (UQ i) i:=NL v b λm hm _=>by unfold UQ;rw[decide_eq_true (by omega),decide_eq_true hm]
 show(match UQ (i+1) i,v i with
  | true,some x=>x
  | _,_=>lw v b (UQ (i+1)) i)=_
 rw[this,show UQ (i+1) i=true from decide_eq_true (by omega)];cases v i<;>rfl
theorem ACH {i:Nat} :SQ ops us IP (UQ (i+1)) (i+1)=Lj (SQ ops us IP (UQ i) i) (JL ops i) (us i).x:=by
 refine zG Y8 Y8 λt ht=> ?_
 rw[N6,if_pos ht,uN];cases wt ops us t i with
 | some x=>rfl
 | none=>simp[ANJ,N6,ht]
theorem ACI {i:Nat} :SR ops us GZ (UQ (i+1)) (i+1)=N3 (JL ops i) (SR ops us GZ (UQ i) i) (us i).δ:=by
 refine zH Y9 Y9 λt ht=> ?_
 rw[N7,if_pos ht,uN];cases wh ops us t i with
 | some x=>rfl
 | none=>simp[ANJ,N7,ht]
end
end
section
section
variable {P:Program} {Θ:JE} {S:FuncId->Option FE} {k:Nat} {U0:Nat->Prop} {ν:Nat->Value} {w0:St} {w:World} {a:Act} {R:Type} {r:R} {ops:Array Oper} {B:List Nat} {us:Nat->Out} {IP:List AV} {GZ:List AB}
def WN (ops:Array Oper) (D:Nat->Bool):Prop:= ∀i,i<ops.size->D i=true-> ∀q∈needs ops i,D q=true
theorem N9 (h:N5 ops B=true) {d:Nat} (hd:d<ops.size):B.getD d 0<2^d/\(∀q∈needs ops d,q<d)/\ ∀i,i<d->(B.getD d 0).testBit i=true-> ∃q∈needs ops d,q=i\/(q<d/\(B.getD q 0).testBit i=true):=by
 unfold N5 at h;have:=ANy.1 h d (AOU.2 hd);simp only[ANQ,ANy,decide_eq_true_eq,AOU] at this;refine⟨this.1.1,this.1.2,λi hi hb=> ?_⟩;have h2:=this.2 i hi;rw[hb] at h2;simp only[Bool.not_true,Bool.false_or,List.any_eq_true,AOi,beq_iff_eq,ANQ,decide_eq_true_eq] at h2;exact h2
theorem AEo (h:N5 ops B=true) {d:Nat} (hd:d<ops.size) {i:Nat} (hb:(B.getD d 0).testBit i=true):i<d:=by
 rcases ANs i d with q | q
 · exact q
 · have:=APl (AOB (N9 h hd).1 (Nat.pow_le_pow_right (by omega) q))
   rw[this] at hb;cases hb
theorem mq (hB:N5 ops B=true) {D:Nat->Bool} (hc:WN ops D) : ∀(d:Nat),d<ops.size->(∀q∈needs ops d,D q=true)-> ∀i,(B.getD d 0).testBit i=true->D i=true:=by
 intro d;induction d using Nat.strongRecOn with
 | _ d ih =>
   intro hd hn i hb;obtain⟨_,h1,h2⟩:=N9 hB hd;obtain⟨q,hq,hqi | ⟨hlt,hqb⟩⟩:=h2 i (AEo hB hd hb) hb
   · exact hqi▸hn q hq
   · have hqs:q<ops.size:=Nat.lt_trans hlt hd
     exact ih q hlt hqs (hc q hqs (hn q hq)) i hqb
theorem Ui (hB:N5 ops B=true) {D:Nat->Bool} (hc:WN ops D) {i j:Nat} (hi:i<ops.size) (hj:j<ops.size) (hn : ∀q∈needs ops i,D q=true) (hD:D i=false) (hij:j≠i) (ho:mg B i j=true):D j=decide (j<i):=by
 unfold mg at ho;split at ho
 · rename_i hlt
   rw[decide_eq_true hlt];exact mq hB hc i hi hn j ho
 · rename_i hge
   rw[decide_eq_false hge];cases hq:D j with
   | false=>rfl
   | true=>rw[mq hB hc j hj (hc j hj hq) i ho] at hD;cases hD
theorem Zy (h:Zv ops B=true) {i j:Nat} {o:Oper} (ho:ops[i]? =some o) (hj:j<ops.size) (hij:j≠i) {t:Tmp} (hd:JL ops j=some t) (ht:t∈tmpsOf ops o):mg B i j=true:=by
 have hi:i<ops.size:=(AOF.1 ho).1;unfold Zv at h;have h1:=ANy.1 h i (AOU.2 hi);rw[ho] at h1;have h2:=ANy.1 h1 j (AOU.2 hj);have hd':(ops[j]?).bind (·.dst)=some t:=hd;rw[hd'] at h2;simp only[AOi,beq_iff_eq,AOc,AOp,decide_eq_false_iff_not] at h2;rcases h2 with(h2 | h2) | h2
 · exact absurd h2 hij
 · exact h2
 · exact absurd ht h2
structure iP (Θ:JE) (S:FuncId->Option FE) (k:Nat) (ops:Array Oper) (B:List Nat) (us:Nat->Out) (IP:List AV) (GZ:List AB) (n:Nat):Prop where
 comes : ∀i,i<n-> ∀o,ops[i]? =some o->iO Θ S k ops (SQ ops us IP (UQ i) i) (SR ops us GZ (UQ i) i) o (us i)
 apart : ∀i j,i<n->j<n->i≠j->mg B i j=true\/ ∀q∈l7 (JL ops j) (us j).δ,q ∉ (us i).ft
theorem Zz {tm El:List AV} {x:Operand} (h : ∀t,x= .tmp t->tm[t]? =El[t]?):AQ tm x=AQ El x:=by
 cases x with
 | tmp t =>
   show tm.getD t .FA=El.getD t .FA;rw[ANJ,ANJ,h t rfl]
 | _=>rfl
theorem wH {o:Oper} {t:Tmp} (h:Operand.tmp t∈reads o.op):t∈tmpsOf ops o:=by
 unfold tmpsOf;refine ANP _ (ANP _ ?_);exact List.mem_filterMap.2 ⟨_,h,rfl⟩
theorem ACJ {o:Oper} {t:Tmp} (h:o.dst=some t):t∈tmpsOf ops o:=by
 unfold tmpsOf;refine ANP _ (ANK _ ?_);simp[h]
theorem e9 {o:Oper} {j:Nat} {want:Bool} {t:Tmp} (hg:o.guard=some (j,want)) (h:(ops[j]?).bind (·.dst)=some t):t∈tmpsOf ops o:=by
 unfold tmpsOf;refine ANK _ ?_;rw[hg];simp[h]
theorem iQ {q:Nat} : ∀ {l:List (Nat × AB)},l8 l q≠none->q∈l.map (·.1)
 | [],h=>absurd rfl h
 | (j,b)::l,h=>by
   unfold l8 at h;split at h
   · rename_i e;subst e;simp
   · exact ANG _ (iQ h)
theorem iR {d:Option Tmp} {q:Nat} {δ:HC} (h:wrB d q δ≠none):q∈l7 d δ:=by
 unfold wrB at h;unfold l7;split at h
 · rename_i b t hn
   split at h
   · rename_i e;subst e;rw[hn];simp
   · exact ANK _ (iQ h)
 · exact ANK _ (iQ h)
theorem wI {d:Option Tmp} {hp B0:List AB} {δ:HC} (h : ∀q∈l7 d δ,hp[q]? =B0[q]?):hok d hp δ=hok d B0 δ:=by
 have h2:(δ.ch.all λp=>iJ hp p.1&& !EI p.2)=δ.ch.all λp=>iJ B0 p.1&& !EI p.2:=by
  rw[Bool.eq_iff_iff,ANy,ANy];refine forall_congr' λp=>forall_congr' λB0=> ?_
  unfold iJ;rw[h p.1 (ANK _ (AN1.2 ⟨p,B0,rfl⟩))]
 unfold hok;rw[h2];split
 · rename_i b t hn
   rw[h t (by unfold l7;rw[hn];simp)]
 · rfl
 · rfl
def also (D:Nat->Bool) (i j:Nat):Bool:=if j=i then true else D j
section
variable (hB:N5 ops B=true) (hN:Zv ops B=true) (rec:iP Θ S k ops B us IP GZ ops.size) {D:Nat->Bool} (hc:WN ops D) {i:Nat} (hi:i<ops.size) (hn : ∀q∈needs ops i,D q=true) (hD:D i=false) {o:Oper} (ho:ops[i]? =some o)
include hB hN rec hc hi hn hD ho
theorem iT {t:Tmp} (ht:t∈tmpsOf ops o):(SQ ops us IP D ops.size)[t]? =(SQ ops us IP (UQ i) i)[t]? :=by
 rw[N6,N6];rw[ADf ops.size (wt ops us t) (IP.getD t .FA) hi hD λj hj hij hw=>Ui hB hc hi hj hn hD hij (Zy hN ho hj hij (t:=t) (by
  unfold wt at hw;split at hw
  · rename_i e;exact e
  · exact absurd rfl hw) ht)]
 rfl
theorem ACK {q:Nat} (hq:q∈(us i).ft):(SR ops us GZ D ops.size)[q]? =(SR ops us GZ (UQ i) i)[q]? :=by
 rw[N7,N7];rw[ADf ops.size (wh ops us q) (GZ.getD q .gone) hi hD λj hj hij hw=>Ui hB hc hi hj hn hD hij ((rec.apart i j hi hj (AQN hij)).resolve_right λh=>h q (iR hw) hq)];rfl
theorem zI (q:Nat) (hq:q∈l7 o.dst (us i).δ):q∈(us i).ft:=by
 rcases rec.comes i hi o ho with⟨_,_,h,_⟩ | ⟨_,h,_⟩
 · rw[h];exact ANK _ hq
 · rw[h] at hq;simp[l7] at hq
theorem zJ:JL ops i=o.dst:=by unfold JL;rw[ho];rfl
theorem ACL:SQ ops us IP (also D i) ops.size=Lj (SQ ops us IP D ops.size) o.dst (us i).x:=by
 have hd:=zJ hB hN rec hc hi hn hD ho;rw[<-hd];refine zG Y8 Y8 λt ht=> ?_
 rw[N6,if_pos ht];cases hw:wt ops us t i with
 | none =>
   rw[show also D i=(λj=>if j=i then true else D j) from rfl,mz ops.size (wt ops us t) _ hw];simp[ANJ,N6,ht]
 | some x =>
   have hdt:JL ops i=some t:=by
    unfold wt at hw;split at hw
    · rename_i e;exact e
    · cases hw
   rw[uO ops.size (wt ops us t) _ hi hw (by simp[also]) λj hj hij wK=> ?_];have hj2:JL ops j=some t:=by
    unfold wt at wK;split at wK
    · rename_i e;exact e
    · exact absurd rfl wK
   have:=Ui hB hc hi hj hn hD (show j≠i by omega) (Zy hN ho hj (by omega) hj2 (ACJ (by rw[<-hd];exact hdt)));unfold also;rw[if_neg (by omega),this,decide_eq_false (by omega)]
theorem ACN:SR ops us GZ (also D i) ops.size=N3 o.dst (SR ops us GZ D ops.size) (us i).δ:=by
 have hd:=zJ hB hN rec hc hi hn hD ho;rw[<-hd];refine zH Y9 Y9 λt ht=> ?_
 rw[N7,if_pos ht];cases hw:wh ops us t i with
 | none =>
   rw[show also D i=(λj=>if j=i then true else D j) from rfl,mz ops.size (wh ops us t) _ hw];simp[ANJ,N7,ht]
 | some x =>
   have hq:t∈(us i).ft:=zI hB hN rec hc hi hn hD ho t (by rw[<-hd];exact iR (by rw[show wrB _ _ _=some x from hw];simp));rw[uO ops.size (wh ops us t) _ hi hw (by simp[also]) λj hj hij wK=> ?_];have:=Ui hB hc hi hj hn hD (show j≠i by omega) ((rec.apart i j hi hj (by omega)).resolve_right λh=>h t (iR wK) hq);unfold also;rw[if_neg (by omega),this,decide_eq_false (by omega)]
theorem wL:iO Θ S k ops (SQ ops us IP D ops.size) (SR ops us GZ D ops.size) o (us i):=by
 have hop : ∀x∈reads o.op,AQ (SQ ops us IP (UQ i) i) x=AQ (SQ ops us IP D ops.size) x:=λx hx=>Zz λt ht=>(iT hB hN rec hc hi hn hD ho (wH (ht▸hx))).symm
 rcases rec.comes i hi o ho with⟨h1,h2,h3,h4⟩ | ⟨h1,h2,h3,j,want,t,g1,g2,g3⟩
 · have hh : ∀q∈(us i).ft,(SR ops us GZ (UQ i) i)[q]? =(SR ops us GZ D ops.size)[q]? :=λq hq=>(ACK hB hN rec hc hi hn hD ho hq).symm
   refine .inl ⟨?_, ?_, ?_, ?_⟩
   · exact ACF h1 hop λq hq=>hh q (by rw[h3];exact hq)
   · rw[<-h2]
     exact(wI λq hq=>hh q (zI hB hN rec hc hi hn hD ho q hq)).symm
   · rw[h3]
     unfold fts
     congr 1
     cases quiet o.op
     case true=>rfl
     show List.flatMap _ _=List.flatMap _ _;rw[List.flatMap_def,List.flatMap_def]
     congr 1
     exact AOE λx hx=>by rw[hop x hx]
   · refine h4.imp id λ⟨j,want,t,b,g1,g2,g3,g4⟩=>⟨j,want,t,b,g1,g2, ?_,g4⟩
     rw[<-g3];exact Zz λt' ht'=>by injection ht' with ht';subst ht';exact iT hB hN rec hc hi hn hD ho (e9 g1 g2)
 · refine .inr ⟨h1,h2,h3,j,want,t,g1,g2, ?_⟩
   refine Eq.mp (congrArg (ACE want) (Eq.symm ?_)) g3;exact Zz λt' ht'=>by injection ht' with ht';subst ht';exact iT hB hN rec hc hi hn hD ho (e9 g1 g2)
end
end
end
section
section
variable {P:Program} {Θ:JE} {S:FuncId->Option FE} {k:Nat} {U0:Nat->Prop} {w0:St} {R:Type} {r:R} {ops:Array Oper} {B:List Nat} {us:Nat->Out} {IP:List AV} {GZ:List AB}
def dn (listed:Array Bool) (j:Nat):Bool:=listed.getD j true
theorem Te {listed:Array Bool} (hl:listed.size=ops.size) {i:Nat} :i∈Region.ready .any ops listed↔i<ops.size/\dn listed i=false/\ ∀q∈needs ops i,listed.getD q false=true:=by
 unfold Region.ready;simp only[List.mem_filter,AOU,ANQ,AOc];unfold dn needs;refine and_congr_right λhi=>and_congr_right λ_=> ?_
 rw[APX hi];simp only[APi,APa];refine Iff.trans (iff_of_eq (congrArg (· =true) (WM (md:= .any) ops[i] (λq=>listed.getD q false)))) ?_;rw[ANy]
theorem m5 {listed:Array Bool} (hl:listed.size=ops.size) {q:Nat} (hq:q<ops.size):listed.getD q false=dn listed q:=by
 unfold dn;simp[ANz,show q<listed.size by omega]
theorem rF {listed:Array Bool} (hl:listed.size=ops.size) {i:Nat} (hi:i<ops.size):dn (listed.setIfInBounds i true)=also (dn listed) i:=by
 funext j
 unfold dn also;by_cases h:j=i
 · subst h
   simp[ANz,show j<listed.size by omega]
 · rw[if_neg h]
   simp[ANz,Array.getElem?_setIfInBounds,AQN h]
def left (D:Nat->Bool) (n:Nat):Nat:=(List.range n).countP λj=> !D j
theorem fA {D:Nat->Bool} : ∀ {n i:Nat},i<n->D i=false->left (also D i) n+1=left D n
 | 0,i,hi,_=>by omega
 | n+1,i,hi,hD=>by
   unfold left;rw[AP8,List.countP_append,List.countP_append];by_cases h:i=n
   · subst h
     have:(List.range i).countP (λj=> !also D i j)=(List.range i).countP λj=> !D j:=List.countP_congr λj hj=>by
      have:j≠i:=(by have:=AOU.1 hj;omega);simp[also,this]
     rw[this];simp[also,hD]
   · have ih:=fA (D:=D) (n:=n) (i:=i) (by omega) hD
     unfold left at ih;have:also D i n=D n:=(by unfold also;rw[if_neg (AQN h)]);simp only[List.countP_singleton,this];omega
theorem wM {D:Nat->Bool} {n:Nat} (h:left D n=0) {j:Nat} (hj:j<n):D j=true:=by
 unfold left at h;rw[List.countP_eq_zero] at h;simpa using h j (AOU.2 hj)
theorem zK (hB:N5 ops B=true) {listed:Array Bool} (hl:listed.size=ops.size) (hr:Region.ready .any ops listed= []) : ∀j,j<ops.size->dn listed j=true:=by
 intro j;induction j using Nat.strongRecOn with
 | _ j ih =>
   intro hj;cases hD:dn listed j with
   | true=>rfl
   | false =>
     have:j∈Region.ready .any ops listed:=(Te hl).2 ⟨hj,hD,λq hq=>by
      have hlt:=(N9 hB hj).2.1 q hq;rw[m5 hl (by omega)];exact ih q hlt (by omega)⟩
     rw[hr] at this;cases this
theorem AEp {Q:Exit->Act->World->Prop} (hΘ:Θ.ok P=true) (hS:FP P S k) (hB:N5 ops B=true) (hN:Zv ops B=true) (hst : ∀o∈ops.toList,∀t x y,o.op= .store t x y->o.dst=none) (rec:iP Θ S k ops B us IP GZ ops.size) (Yf : ∀q,U0 q->q<w0.heap.size)
 (hQ : ∀ν' a' w',Inv U0 ν' (SQ ops us IP (UQ ops.size) ops.size) (SR ops us GZ (UQ ops.size) ops.size) w0 a' w'->Q .normal a' w') :
 ∀(fuel:Nat) (listed:Array Bool) (ν:Nat->Value) (a:Act) (w:World),listed.size=ops.size->WN ops (dn listed)->left (dn listed) ops.size<=fuel->Inv U0 ν (SQ ops us IP (dn listed) ops.size) (SR ops us GZ (dn listed) ops.size) w0 a w->wpAny P .any ops Q fuel listed a w:=by
 have fin : ∀ {listed:Array Bool} {ν:Nat->Value} {a:Act} {w:World},(∀j,j<ops.size->dn listed j=true)->Inv U0 ν (SQ ops us IP (dn listed) ops.size) (SR ops us GZ (dn listed) ops.size) w0 a w->Q .normal a w:=by
  intro listed ν a w hall I;have e1:SQ ops us IP (dn listed) ops.size=SQ ops us IP (UQ ops.size) ops.size:=by
   unfold SQ;refine AOE λt _=>NL _ _ λm hm _=> ?_
   rw[hall m hm];exact(decide_eq_true hm).symm
  have e2:SR ops us GZ (dn listed) ops.size=SR ops us GZ (UQ ops.size) ops.size:=by
   unfold SR;refine AOE λt _=>NL _ _ λm hm _=> ?_
   rw[hall m hm];exact(decide_eq_true hm).symm
  rw[e1,e2] at I;exact hQ ν a w I
 intro fuel;induction fuel with
 | zero =>
   intro listed ν a w hl hc hf I;have hall : ∀j,j<ops.size->dn listed j=true:=λj hj=>wM (by omega) hj
   refine⟨?_,fin hall I⟩;rw[List.eq_nil_iff_forall_not_mem];intro i hi;obtain⟨h1,h2,_⟩:=(Te hl).1 hi;rw[hall i h1] at h2;cases h2
 | succ fuel ih =>
   intro listed ν a w hl hc hf I;refine⟨λhr=>fin (zK hB hl hr) I,λi hi=> ?_⟩;obtain⟨hi,hD,hn'⟩:=(Te hl).1 hi;obtain⟨o,ho⟩ : ∃o,ops[i]? =some o:=⟨_,APX hi⟩;have hn : ∀q∈needs ops i,dn listed q=true:=λq hq=>by
    have hlt:=(N9 hB hi).2.1 q hq;rw[<-m5 hl (by omega)];exact hn' q hq
   have AJM:=wL hB hN rec hc hi hn hD ho;have etm:=ACL hB hN rec hc hi hn hD ho;have ehp:=ACN hB hN rec hc hi hn hD ho;have hc':WN ops (dn (listed.setIfInBounds i true)):=by
    rw[rF hl hi];intro j hj hd q hq;unfold also at hd ⊢;by_cases hqi:q=i
    · rw[if_pos hqi]
    · rw[if_neg hqi]
      by_cases hji:j=i
      · subst hji;exact hn q hq
      · rw[if_neg hji] at hd;exact hc j hj hd q hq
   have next : ∀(ν':Nat->Value) (v:Value) (w':World),Inv U0 ν' (Lj (SQ ops us IP (dn listed) ops.size) o.dst (us i).x) (N3 o.dst (SR ops us GZ (dn listed) ops.size) (us i).δ) w0 (a.put o.dst v) w'->wpAny P .any ops Q fuel (listed.setIfInBounds i true) (a.put o.dst v) w':=by
    intro ν' v w' I';refine ih _ ν' _ w' (by simp[hl]) hc' ?_ ?_
    · have:=fA hi hD
      rw[rF hl hi];omega
    · rw[rF hl hi,etm,ehp]
      exact I'
   unfold wpOp;rw[ho];rcases AJM with⟨h1,h2,h3,h4⟩ | ⟨h1,h2,h3,j,want,t,g1,g2,g3⟩
   · have hw:Region.wanted o (yielded ops a.tmps)=true:=by
      rcases h4 with h4 | ⟨j,want,t,b,g1,g2,g3,g4⟩
      · simp[Region.wanted,h4]
      · simp[Region.wanted,g1,Tf I g2 g3,g4]
     simp only[hw,if_true];refine .inl ?_;obtain⟨x',δ',e,hg⟩:=uP (K:=λx δ=> .done (x,δ)) hΘ hS I Yf h1 (hst o (by
      have:=(AOF.1 ho).2;rw[<-this];simp))
     have e:some (x',δ')=some ((us i).x,(us i).δ):=e;injection e with e;injection e with e1 e2;subst e1 e2;exact hg h2 _ _ λν' v w' I'=>next ν' v w' I'
   · have hw : ¬Region.wanted o (yielded ops a.tmps)=true:=Z0 I g1 g2 g3
     simp only[hw,if_false];refine next ν undef w ?_
     rw[h1,h2];exact I.P3 o.dst rfl
end
end
section
section
variable {P:Program} {Θ:JE} {S:FuncId->Option FE} {k:Nat} {U0:Nat->Prop} {w0:St} {R:Type} {r:R} {ops:Array Oper} {B:List Nat} {us us':Nat->Out} {IP:List AV} {GZ:List AB}
theorem WT {α:Type} {v v':Nat->Option α} {b:α} {D:Nat->Bool} : ∀ {n:Nat},(∀m,m<n->v m=v' m)->lw v b D n=lw v' b D n
 | 0,_=>rfl
 | n+1,h=>by
   have ih:lw v b D n=lw v' b D n:=WT λm hm=>h m (by omega)
   show(match D n,v n with
    | true,some x=>x
    | _,_=>lw v b D n)=(match D n,v' n with
    | true,some x=>x
    | _,_=>lw v' b D n)
   rw[h n (by omega),ih]
theorem iU {i:Nat} (h : ∀j,j<i->us j=us' j) {D:Nat->Bool} :SQ ops us IP D i=SQ ops us' IP D i:=by
 unfold SQ;exact AOE λt _=>WT λm hm=>by unfold wt;rw[h m hm]
theorem iV {i:Nat} (h : ∀j,j<i->us j=us' j) {D:Nat->Bool} :SR ops us GZ D i=SR ops us' GZ D i:=by
 unfold SR;exact AOE λt _=>WT λm hm=>by unfold wh;rw[h m hm]
structure Part (Θ:JE) (S:FuncId->Option FE) (k:Nat) (ops:Array Oper) (B:List Nat) (us:Nat->Out) (IP:List AV) (GZ:List AB) (i:Nat) (rec:List (List Nat × List Nat)) (tm:List AV) (hp:List AB):Prop where
 rcd:rec=(List.range i).map λj=>((us j).ft,l7 (JL ops j) (us j).δ)
 comes : ∀j,j<i-> ∀o,ops[j]? =some o->iO Θ S k ops (SQ ops us IP (UQ j) j) (SR ops us GZ (UQ j) j) o (us j)
 apart : ∀a b,a<i->b<i->a≠b->mg B a b=true\/ ∀q∈l7 (JL ops b) (us b).δ,q ∉ (us a).ft
 tm:tm=SQ ops us IP (UQ i) i
 hp:hp=SR ops us GZ (UQ i) i
def ext (us:Nat->Out) (i:Nat) (u:Out) (j:Nat):Out:=if j=i then u else us j
theorem Part.more {i:Nat} {rec:List (List Nat × List Nat)} {tm:List AV} {hp:List AB} (p:Part Θ S k ops B us IP GZ i rec tm hp) {o:Oper} (ho:ops[i]? =some o) {u:Out} (hu:iO Θ S k ops tm hp o u)
 (hap : ∀x∈rec.zipIdx,(B.getD i 0).testBit x.2=true\/((∀q∈x.1.2,q ∉ u.ft)/\ ∀q∈l7 o.dst u.δ,q ∉ x.1.1)) :
 Part Θ S k ops B (ext us i u) IP GZ (i+1) (rec++ [(u.ft,l7 o.dst u.δ)]) (Lj tm o.dst u.x) (N3 o.dst hp u.δ):=by
 have hd:JL ops i=o.dst:=by unfold JL;rw[ho];rfl
 have same : ∀j,j<i->us j=(ext us i u) j:=λj hj=>by unfold ext;rw[if_neg (by omega)]
 have Mm : ∀j,j<i->(ext us i u) j=us j:=λj hj=>(same j hj).symm
 have fD:(ext us i u) i=u:=by unfold ext;rw[if_pos rfl]
 have AGH : ∀j,j<i->(((us j).ft,l7 (JL ops j) (us j).δ),j)∈rec.zipIdx:=λj hj=>by
  rw[p.rcd,List.mem_zipIdx_iff_getElem?];rw[APA,APd hj];rfl
 refine⟨?_,λj hj o' ho'=> ?_,λx y hx hy hxy=> ?_, ?_, ?_⟩
 · rw[AP8,AOe,p.rcd]
   congr 1
   · exact AOE λj hj=>by rw[Mm j (AOU.1 hj)]
   · rw[List.map_singleton,fD,hd]
 · rcases ANs j i with hlt | hge
   · rw[<-iU (λq hq=>same q (by omega)),<-iV (λq hq=>same q (by omega)),Mm j hlt]
     exact p.comes j hlt o' ho'
   · obtain rfl:j=i:=by omega
     rw[ho] at ho';injection ho' with ho';subst ho';rw[<-iU same,<-iV same,fD,<-p.tm,<-p.hp];exact hu
 · rcases ANs x i with hx' | hx'<;>rcases ANs y i with hy' | hy'
   · rw[Mm x hx',Mm y hy']
     exact p.apart x y hx' hy' hxy
   · obtain rfl:y=i:=by omega
     rw[Mm x hx',fD,hd];rcases hap _ (AGH x hx') with h | h
     · left;unfold mg;rw[if_neg (by omega)];exact h
     · exact .inr h.2
   · obtain rfl:x=i:=by omega
     rw[Mm y hy',fD];rcases hap _ (AGH y hy') with h | h
     · left;unfold mg;rw[if_pos hy'];exact h
     · exact .inr h.1
   · omega
 · rw[ACH,fD,hd,<-iU same,<-p.tm]
 · rw[ACI,fD,hd,<-iV same,<-p.hp]
theorem OA {K:List AV->List AB->Tree R} : ∀(l:List Oper) (i:Nat) (us:Nat->Out) (rec:List (List Nat × List Nat)) (tm:List AV) (hp:List AB),ops.toList.drop i=l->Part Θ S k ops B us IP GZ i rec tm hp->i+l.length=ops.size->(Td Θ S k ops B l i rec tm hp K).run=some r ->
 ∃us',iP Θ S k ops B us' IP GZ ops.size/\(K (SQ ops us' IP (UQ ops.size) ops.size) (SR ops us' GZ (UQ ops.size) ops.size)).run=some r
 | [],i,us,rec,tm,hp,hl,p,hs,h=>by
   obtain rfl:i=ops.size:=by simpa using hs
   refine⟨us,⟨p.comes,p.apart⟩, ?_⟩;rw[<-p.tm,<-p.hp];exact h
 | o::rest,i,us,rec,tm,hp,hl,p,hs,h=>by
   have hi:i<ops.size:=(by simp at hs;omega);have ho:ops[i]? =some o:=by
    have:ops.toList[i]? =some o:=by
     have:=congrArg (·[0]?) hl;simpa[ANj] using this
    simpa using this
   have hl':ops.toList.drop (i+1)=rest:=by
    rw[<-APr,hl];rfl
   have hs':i+1+rest.length=ops.size:=(by simp at hs;omega);have go:(stepT Θ S k tm hp o.dst o.op λx δ=>if(hok o.dst hp δ&&(rec.zipIdx.all λp=>(B.getD i 0).testBit p.2 || (p.1.2.all (λq=> !(fts tm o δ).contains q)&&(l7 o.dst δ).all (λq=> !p.1.1.contains q))))=true then Td Θ S k ops B rest (i+1) (rec++ [(fts tm o δ,l7 o.dst δ)]) (Lj tm o.dst x) (N3 o.dst hp δ) K else .non).run=some r ->
    (o.guard=none\/ ∃j want t b,o.guard=some (j,want)/\(ops[j]?).bind (·.dst)=some t/\AQ tm (.tmp t)= .val [.ro .bool b]/\(b:Bool)=want) ->
    ∃us',iP Θ S k ops B us' IP GZ ops.size/\(K (SQ ops us' IP (UQ ops.size) ops.size) (SR ops us' GZ (UQ ops.size) ops.size)).run=some r:=by
    intro h hg;rw[rG] at h;cases hst:step Θ S k tm hp o.dst o.op with
    | none=>rw[hst] at h;cases h
    | some q =>
      obtain⟨x,δ⟩:=q;rw[hst] at h;simp only[AOO] at h;split at h
      · rename_i hc
        simp only[ANQ,ANy,AOi,AOc,AOp,decide_eq_false_iff_not] at hc;have p':=p.more ho (u:=⟨x,δ,fts tm o δ⟩) (.inl ⟨hst,hc.1,rfl,hg⟩) (λy hy=>hc.2 y hy);exact OA rest (i+1) _ _ _ _ hl' p' hs' h
      · cases h
   simp only[mh,yt,mR,uJ,mS,ACD] at h;split at h
   · rename_i hg
     exact go h (.inl hg)
   · rename_i j want hg
     split at h
     · rename_i t ht
       split at h
       · rename_i b hb
         rcases Tree.Ln h with⟨hw,h⟩ | ⟨hw,h⟩
         · exact go h (.inr ⟨j,want,t,b,hg,ht,hb,hw⟩)
         · have p':=p.more ho (u:=⟨.un,H0,[]⟩) (.inr ⟨rfl,rfl,rfl,j,want,t,hg,ht,(by rw[hb];exact hw)⟩) (λy hy=> .inr ⟨λq _ hq=>(by cases hq),λq hq=>(by cases hq)⟩)
           exact OA rest (i+1) _ _ _ _ hl' p' hs' h
       · rename_i hu
         have p':=p.more ho (u:=⟨.un,H0,[]⟩) (.inr ⟨rfl,rfl,rfl,j,want,t,hg,ht,(by rw[hu];trivial)⟩) (λy hy=> .inr ⟨λq _ hq=>(by cases hq),λq hq=>(by cases hq)⟩);exact OA rest (i+1) _ _ _ _ hl' p' hs' h
       · cases h
     · cases h
end
end
section
inductive CK where
 | ty (t:Ty)
 | own (q:Lq) (id:Nat) (e:TypeId) (t:Ty)
 | al (id:Nat)
 | ptr (j o:Nat)
 | Hg (j:Nat)
 | map (id:Nat)
@[reducible] def CT:List CK->Type
  | []=>Unit
  | .ty t::l=>T t × CT l
  | .own _ _ _ t::l=>List (T t) × CT l
  | .al _::l=>CT l
  | .ptr _ _::l=>CT l
  | .Hg _::l=>CT l
  | .map _::l=>List (Int × Int) × CT l
def Tg (hp:List AB):(fs:List CK)->List AC->Option (CT fs)
 | [],[]=>some ()
 | .ty t::l,cs=>match Ee hp t cs with
   | some (x,cs')=>match Tg hp l cs' with
     | some y=>some (x,y)
     | none=>none
   | none=>none
 | .own q _ _ _::l, .Bo::cs=>if q= .kept then none else match Tg hp l cs with
   | some y=>some ([],y)
   | none=>none
 | .own q id e t::l, .own j::cs=>match hp[j]? with
   | some (.row q' e' t' xs)=>if h:e'=e/\t'=t then(if q'=q/\(q= .kept->j=id) then(match Tg hp l cs with
     | some y=>h.2▸some (xs,y)
     | none=>none) else none) else none
   | _=>none
 | .al _::l, .Bo::cs=>Tg hp l cs
 | .al _::l, .own j::cs=>match hp[j]? with
   | some (.row _ _ _ _)=>Tg hp l cs
   | some (.map _)=>Tg hp l cs
   | _=>none
 | .map _::l, .own j::cs=>match hp[j]? with
   | some (.map xs)=>match Tg hp l cs with
     | some y=>some (xs,y)
     | none=>none
   | _=>none
 | .ptr j o::l, .ptr j' o'::cs=>if j'=j/\o'=o then Tg hp l cs else none
 | .Hg j::l, .Hg j'::cs=>if j'=j then Tg hp l cs else none
 | _,_=>none
def wrC:(fs:List CK)->CT fs->List AC
 | [],_=> []
 | .ty t::l,(x,y)=>WQ t x++wrC l y
 | .own _ id _ _::l,(_,y)=> .own id::wrC l y
 | .al id::l,x=> .own id::wrC l x
 | .ptr j o::l,x=> .ptr j o::wrC l x
 | .Hg j::l,x=> .Hg j::wrC l x
 | .map id::l,(_,y)=> .own id::wrC l y
def Z1:(fs:List CK)->CT fs->List (Nat × AB)
 | [],_=> []
 | .ty _::l,(_,y)=>Z1 l y
 | .own q id e t::l,(x,y)=>(id, .row q e t x)::Z1 l y
 | .al _::l,x=>Z1 l x
 | .ptr _ _::l,x=>Z1 l x
 | .Hg _::l,x=>Z1 l x
 | .map id::l,(x,y)=>(id, .map x)::Z1 l y
def SU:List CK->List AC->List (Nat × Option Nat)
 | .ty t::l,cs=>SU l (cs.drop t.size)
 | .own _ id _ _::l, .own j::cs=>(id,some j)::SU l cs
 | .own _ id _ _::l,_::cs=>(id,none)::SU l cs
 | .map id::l, .own j::cs=>(id,some j)::SU l cs
 | .map id::l,_::cs=>(id,none)::SU l cs
 | .al _::l,_::cs=>SU l cs
 | .ptr _ _::l,_::cs=>SU l cs
 | .Hg _::l,_::cs=>SU l cs
 | _,_=> []
def uQ:List CK->List AC->List (Nat × Option Nat)
 | .ty t::l,cs=>uQ l (cs.drop t.size)
 | .al id::l, .own j::cs=>(id,some j)::uQ l cs
 | .al id::l,_::cs=>(id,none)::uQ l cs
 | .own _ _ _ _::l,_::cs=>uQ l cs
 | .map _::l,_::cs=>uQ l cs
 | .ptr _ _::l,_::cs=>uQ l cs
 | .Hg _::l,_::cs=>uQ l cs
 | _,_=> []
def tyC:List CK->List AC->List AC
 | .ty t::l,cs=>cs.take t.size++tyC l (cs.drop t.size)
 | .own _ _ _ _::l,_::cs=>tyC l cs
 | .map _::l,_::cs=>tyC l cs
 | .al _::l,_::cs=>tyC l cs
 | .ptr _ _::l,_::cs=>tyC l cs
 | .Hg _::l,_::cs=>tyC l cs
 | _,_=> []
def wO:List CK->List Nat
 | []=> []
 | .ptr j _::l=>j::wO l
 | .Hg j::l=>j::wO l
 | _::l=>wO l
inductive Slot where
 | tmp (t:Tmp) (fs:List CK)
 | C4 (j:Nat) (q:Lq) (e:TypeId) (fs:List CK)
 | arr (j:Nat) (e:TypeId) (t:Ty)
@[reducible] def TS:List Slot->Type
  | []=>Unit
  | .tmp _ fs::l=>CT fs × TS l
  | .C4 _ _ _ fs::l=>CT fs × TS l
  | .arr _ _ t::l=>List (T t) × TS l
def FQ (tm:List AV) (hp:List AB):Slot->List AC
 | .tmp t _=>cellsOf (tm.getD t .FA)
 | .C4 j _ _ _=>match hp[j]? with
   | some (.cells _ _ cs)=>cs
   | _=> []
 | .arr _ _ _=> []
def ADg (hp:List AB) (j:Nat) (q:Lq) (e:TypeId):Bool:=match hp[j]? with
 | some (.cells q' e' _)=>q'==q&&e'==e
 | _=>false
def isVal (tm:List AV) (t:Tmp):Bool:=match tm.getD t .FA with
 | .val _=>true
 | _=>false
def rdS (tm:List AV) (hp:List AB):(sl:List Slot)->Option (TS sl)
 | []=>some ()
 | .tmp t fs::l=>if isVal tm t=true then(match Tg hp fs (FQ tm hp (.tmp t fs)) with
   | some x=>match rdS tm hp l with
     | some y=>some (x,y)
     | none=>none
   | none=>none) else none
 | .C4 j q e fs::l=>if ADg hp j q e=true then(match Tg hp fs (FQ tm hp (.C4 j q e fs)) with
   | some x=>match rdS tm hp l with
     | some y=>some (x,y)
     | none=>none
   | none=>none) else none
 | .arr j e t::l=>match hp[j]? with
   | some (.row .mine e' t' xs)=>if h:e'=e/\t'=t then(match rdS tm hp l with
     | some y=>h.2▸some (xs,y)
     | none=>none) else none
   | _=>none
def wrT:(sl:List Slot)->TS sl->List AV->List AV
 | [],_,tm=>tm
 | .tmp t fs::l,(x,y),tm=>wrT l y (tm.set t (.val (wrC fs x)))
 | .C4 _ _ _ _::l,(_,y),tm=>wrT l y tm
 | .arr _ _ _::l,(_,y),tm=>wrT l y tm
def yE:(sl:List Slot)->TS sl->List (Nat × AB)
 | [],_=> []
 | .tmp _ fs::l,(x,y)=>Z1 fs x++yE l y
 | .C4 j q e fs::l,(x,y)=>(j, .cells q e (wrC fs x))::(Z1 fs x++yE l y)
 | .arr j e t::l,(x,y)=>(j, .row .mine e t x)::yE l y
def dS (tm:List AV) (hp:List AB):List Slot->List (Nat × Option Nat)
 | []=> []
 | .tmp t fs::l=>SU fs (FQ tm hp (.tmp t fs))++dS tm hp l
 | .C4 j q e fs::l=>(j,some j)::(SU fs (FQ tm hp (.C4 j q e fs))++dS tm hp l)
 | .arr j _ _::l=>(j,some j)::dS tm hp l
def alS (tm:List AV) (hp:List AB):List Slot->List (Nat × Option Nat)
 | []=> []
 | .tmp t fs::l=>uQ fs (FQ tm hp (.tmp t fs))++alS tm hp l
 | .C4 j q e fs::l=>uQ fs (FQ tm hp (.C4 j q e fs))++alS tm hp l
 | .arr _ _ _::l=>alS tm hp l
def rH (tm:List AV) (hp:List AB):List Slot->List AC
 | []=> []
 | .tmp t fs::l=>tyC fs (FQ tm hp (.tmp t fs))++rH tm hp l
 | .C4 j q e fs::l=>tyC fs (FQ tm hp (.C4 j q e fs))++rH tm hp l
 | .arr _ _ _::l=>rH tm hp l
def zL:List Slot->List Nat
 | []=> []
 | .tmp _ fs::l=>wO fs++zL l
 | .C4 _ _ _ fs::l=>wO fs++zL l
 | .arr _ _ _::l=>zL l
def zM:List Slot->List Nat
 | []=> []
 | .tmp _ _::l=>zM l
 | .C4 j _ _ _::l=>j::zM l
 | .arr j _ _::l=>j::zM l
def OB:List Nat->Bool
 | []=>true
 | a::l=> !l.contains a&&OB l
def srcs:List (Nat × Option Nat)->List Nat
 | []=> []
 | (_,some j)::l=>j::srcs l
 | (_,none)::l=>srcs l
def iW:List (Nat × Option Nat)->Nat->Option Nat
 | [],_=>none
 | (i,s)::l,j=>if i=j then s else iW l j
def zN:List (Nat × Option Nat)->Nat->Option Nat->Bool
 | [],_,_=>false
 | (i,s)::l,j,u=>(i==j&&s==u) || zN l j u
structure CN where
 n:Nat
 m:Nat
 f:List Nat
def AGI (N:CN) (tm:List AV) (hp:List AB) (sl:List Slot):Bool :=
 (tm.length==N.n&&((alS tm hp sl).all λp=>zN (dS tm hp sl) p.1 p.2)&&(N.f.all λj=>zN (dS tm hp sl) j (some j)))&&OB ((dS tm hp sl).map (·.1))&&OB (srcs (dS tm hp sl))&&((dS tm hp sl).all λp=>decide (p.1<N.m))&&((zL sl).all λj=>(zM sl).contains j)
def zO {R:Type} (N:CN) (sl:List Slot) (g:Nat->TS sl->Option R) (k:Nat) (tm:List AV) (hp:List AB):Tree R :=
 wC (Kb hp (rH tm hp sl)) hp λB0=>if AGI N tm B0 sl=true then(match rdS tm B0 sl with
  | some x=> .dR (g k x) .done
  | none=> .non) else .non
def m6 (N:CN) (sl:List Slot) (x:TS sl):List AV:=wrT sl x (List.replicate N.n .FA)
def Th (N:CN) (sl:List Slot) (x:TS sl):List AB:=DB (yE sl x) (List.replicate N.m .gone)
section
variable {U0:Nat->Prop} {ν:Nat->Value} {tm:List AV} {hp:List AB} {w0:St} {w:World} {a:Act}
inductive Vw (hp:List AB) (ρ:Nat->Option Nat) (L':Nat->Prop):List AC->List AC->Prop where
 | nil:Vw hp ρ L' [] []
 | ty {t:Ty} {x:T t} {cs rest cs':List AC} (h:Ee hp t cs=some (x,rest)) (hf : ∀(j:Nat) (e:TypeId) (t':Ty) (xs:List (T t')),AC.own j∈cs.take t.size->hp[j]? ≠some (.row .mine e t' xs)) (hr:Vw hp ρ L' rest cs') (hd:rest=cs.drop t.size):Vw hp ρ L' cs (WQ t x++cs')
 | own {i j:Nat} {cs cs':List AC} (h:ρ i=some j) (hl:L' i) (hj:lv hp j) (hr:Vw hp ρ L' cs cs'):Vw hp ρ L' (.own j::cs) (.own i::cs')
 | Bo {i:Nat} {cs cs':List AC} (h:ρ i=none) (hl:L' i) (hr:Vw hp ρ L' cs cs'):Vw hp ρ L' (.Bo::cs) (.own i::cs')
 | ptr {j o:Nat} {cs cs':List AC} (h:ρ j=some j) (hl:L' j) (hr:Vw hp ρ L' cs cs'):Vw hp ρ L' (.ptr j o::cs) (.ptr j o::cs')
 | Hg {j:Nat} {cs cs':List AC} (h:ρ j=some j) (hl:L' j) (hr:Vw hp ρ L' cs cs'):Vw hp ρ L' (.Hg j::cs) (.Hg j::cs')
def VwB (hp:List AB) (ρ:Nat->Option Nat) (L':Nat->Prop) (i:Nat):AB->Prop
 | .row q e t xs=>(∃j,ρ i=some j/\hp[j]? =some (.row q e t xs))\/(ρ i=none/\xs= [])
 | .cells q e cs'=> ∃j cs,ρ i=some j/\hp[j]? =some (.cells q e cs)/\Vw hp ρ L' cs cs'
 | .map xs=> ∃j,ρ i=some j/\hp[j]? =some (.map xs)
 | _=>False
def seen (ν:Nat->Value) (ρ:Nat->Option Nat) (i:Nat):Value:=match ρ i with
 | some j=>ν j
 | none=> .slice none 0 0
theorem Inv.view (I:Inv U0 ν tm hp w0 a w) (hU : ∀k,U0 k->k<w0.heap.size) {ρ:Nat->Option Nat} {El:List AV} {B0:List AB} (h1:El.length=tm.length)
 (h2 : ∀i x',El[i]? =some x'->x'= .FA\/ ∃cs cs',tm.getD i .FA= .val cs/\x'= .val cs'/\Vw hp ρ (lv B0) cs cs')
 (h3 : ∀i b',B0[i]? =some b'->EI b'=false->VwB hp ρ (lv B0) i b')
 (h4 : ∀i i' j,i≠i'->lv B0 i->lv B0 i'->ρ i=some j->ρ i'≠some j) (h5 : ∀p∈w0.fx,ρ p.1=some p.1/\ ∃b',B0[p.1]? =some b'/\P0 b'=true):Inv U0 (seen ν ρ) El B0 w0 a w:=by
 have hsome : ∀ {i j:Nat},ρ i=some j->seen ν ρ i=ν j:=λh=>by unfold seen;rw[h]
 have hnone : ∀ {i:Nat},ρ i=none->seen ν ρ i= .slice none 0 0:=λh=>by unfold seen;rw[h]
 have zP : ∀ {i j:Nat},lv B0 i->ρ i=some j->lv hp j:=λ{i j} ⟨b',q1,q2⟩ hr=>by
  have:=h3 i b' q1 q2;cases b' with
  | row q e t xs =>
    rcases this with⟨j',e1,e2⟩ | ⟨e1,_⟩
    · rw[hr] at e1;injection e1 with e1;subst e1;exact⟨_,e2,rfl⟩
    · rw[hr] at e1;cases e1
  | cells q e cs =>
    obtain⟨j',cs0,e1,e2,_⟩:=this;rw[hr] at e1;injection e1 with e1;subst e1;exact⟨_,e2,rfl⟩
  | map xs =>
    obtain⟨j',e1,e2⟩:=this;rw[hr] at e1;injection e1 with e1;subst e1;exact⟨_,e2,rfl⟩
  | _=>exact this.elim
 have hun : ∀k,Un U0 (seen ν ρ) (lv B0) k->Un U0 ν (lv hp) k:=λk h=>by
  rcases h with h | ⟨i,hi,hb⟩
  · exact .inl h
  · cases hr:ρ i with
    | none=>rw[hnone hr] at hb;cases hb
    | some j=>rw[hsome hr] at hb;exact .inr ⟨j,zP hi hr,hb⟩
 have mv:Move (Un U0 ν (lv hp)) w w (Un U0 (seen ν ρ) (lv B0)):=⟨ANS _,λ_ _ _=>rfl,λk _ h=>hun k h⟩;have cells : ∀ {cs cs':List AC},Vw hp ρ (lv B0) cs cs'-> ∀ {vs:List Value},CD (CW U0 ν (lv hp) w) cs vs->CD (CW U0 (seen ν ρ) (lv B0) w) cs' vs:=by
  intro cs cs' h;induction h with
  | nil=>intro vs hr;cases vs with
    | nil=>trivial
    | cons _ _=>exact hr.elim
  | @ty t x cs rest cs' ht hf hr hd ih =>
    intro vs hvs;obtain⟨q1,q2⟩:=Z2 I (U:=Un U0 (seen ν ρ) (lv B0)) (λk _ h=>hun k h) (λj e' t' xs hj hb=>absurd hb (hf j e' t' xs hj)) ht hvs;have:=(Gj t x q1).app (ih q2);rw[AOm] at this;exact this
  | @own i j cs cs' hρ hl hj hr ih =>
    intro vs hvs
    match vs,hvs with
    | v::vs,hvs=>exact⟨⟨hl,by rw[hsome hρ];exact hvs.1.2⟩,ih hvs.2⟩
    | [],hvs=>exact hvs.elim
  | @Bo i cs cs' hρ hl hr ih =>
    intro vs hvs
    match vs,hvs with
    | v::vs,hvs=>exact⟨⟨hl,by rw[hnone hρ];exact hvs.1⟩,ih hvs.2⟩
    | [],hvs=>exact hvs.elim
  | @ptr j o cs cs' hρ hl hr ih =>
    intro vs hvs
    match vs,hvs with
    | v::vs,hvs =>
      obtain⟨⟨_,g,e1,e2⟩,AEq⟩:=hvs;exact⟨⟨hl,g,by rw[hsome hρ];exact e1,e2⟩,ih AEq⟩
    | [],hvs=>exact hvs.elim
  | @Hg j cs cs' hρ hl hr ih =>
    intro vs hvs
    match vs,hvs with
    | v::vs,hvs =>
      obtain⟨⟨_,g,n,c,e1,e2⟩,AEq⟩:=hvs;exact⟨⟨hl,g,n,c,by rw[hsome hρ];exact e1,e2⟩,ih AEq⟩
    | [],hvs=>exact hvs.elim
 refine⟨I.size.trans h1.symm,λi x' hx=> ?_,λi b' q1 q2=> ?_,λi i' hii hi hi' k hk hk'=> ?_,I.fr,λp hp=>⟨(hsome (h5 p hp).1).trans (I.fx p hp).1,(h5 p hp).2⟩,I.defers⟩
 · rcases h2 i x' hx with rfl | ⟨cs,cs',e1,rfl,hv⟩
   · trivial
   · have hl:i<tm.length:=by rw[<-h1];exact(ANN.1 hx).1
     have yD:tm[i]? =some (.val cs):=by
      rw[ANJ,ANX hl] at e1;rw[ANX hl];exact congrArg some e1
     obtain⟨vs,q1,q2⟩:=I.tm i _ yD;exact⟨vs,q1,cells hv q2⟩
 · have:=h3 i b' q1 q2
   cases b' with
   | row q e t xs =>
     rcases this with⟨j,e1,e2⟩ | ⟨e1,e2⟩
     · have hB:=I.mem j _ e2 rfl
       obtain⟨⟨inner,z1,z2⟩,z3⟩:=hB;exact⟨⟨inner,by rw[hsome e1];exact z1,z2.Gh λ_ _ z=>z.move mv⟩,λk hk=>z3 k (by rw[hsome e1] at hk;exact hk)⟩
     · subst e2
       exact⟨⟨[],by rw[hnone e1];exact iE w _ _ _,Bn.none _ _⟩,λk hk=>by rw[hnone e1] at hk;cases hk⟩
   | cells q e cs' =>
     obtain⟨j,cs,e1,e2,hv⟩:=this;obtain⟨g,vs,z1,z2,z3,z4⟩:=I.mem j _ e2 rfl;exact⟨g,vs,by rw[hsome e1];exact z1,z2,z3,cells hv z4⟩
   | map xs =>
     obtain⟨j,e1,e2⟩:=this;obtain⟨g,es,c,z1,z2,z3,z4⟩:=I.mem j _ e2 rfl;exact⟨g,es,c,by rw[hsome e1];exact z1,z2,z3,z4⟩
   | _=>exact this.elim
 · cases hr:ρ i with
   | none=>rw[hnone hr] at hk;cases hk
   | some j =>
     cases hr':ρ i' with
     | none=>rw[hnone hr'] at hk';cases hk'
     | some j' =>
       rw[hsome hr] at hk;rw[hsome hr'] at hk';have hne:j≠j':=λe=>h4 i i' j hii hi hi' hr (e▸hr')
       exact I.qV j j' hne (zP hi hr) (zP hi' hr') k hk hk'
theorem fE {l:List Nat} {a:Nat} :OB (a::l)=true->a ∉ l/\OB l=true:=by
 intro h;simp only[OB,ANQ,AOc,AOp,decide_eq_false_iff_not] at h;exact h
theorem m7 : ∀ {l:List (Nat × Option Nat)},OB (l.map (·.1))=true-> ∀p∈l,iW l p.1=p.2
 | (i,s)::l,h,p,hp=>by
   obtain⟨h1,h2⟩:=fE h;rcases ANM.1 hp with rfl | hp
   · simp[iW]
   · have:i≠p.1:=λe=>h1 (e▸AN1.2 ⟨p,hp,rfl⟩)
     simp only[iW,if_neg this];exact m7 h2 p hp
theorem Uj : ∀ {l:List (Nat × Option Nat)} {i j:Nat},(i,some j)∈l->j∈srcs l
 | (a,s)::l,i,j,h=>by
   rcases ANM.1 h with e | h'
   · injection e with _ e2
     subst e2;exact ANH
   · cases s with
     | none=>exact Uj (l:=l) h'
     | some k=>exact ANG _ (Uj (l:=l) h')
theorem Z3 : ∀ {l:List (Nat × Option Nat)},OB (srcs l)=true-> ∀ {i i' j:Nat},(i,some j)∈l->(i',some j)∈l->i=i'
 | (a,none)::l,h,i,i',j,h1,h2=>by
   have h1:=(ANM.1 h1).resolve_left (λe=>by cases e);have h2:=(ANM.1 h2).resolve_left (λe=>by cases e);exact Z3 (l:=l) h h1 h2
 | (a,some k)::l,h,i,i',j,h1,h2=>by
   obtain⟨hk,hl⟩:=fE (show OB (k::srcs l)=true from h);rcases ANM.1 h1 with e1 | g1<;>rcases ANM.1 h2 with e2 | g2
   · injection e1 with e1 _;injection e2 with e2 _;rw[e1,e2]
   · injection e1 with _ e1;injection e1 with e1;subst e1;exact absurd (Uj (l:=l) g2) hk
   · injection e2 with _ e2;injection e2 with e2;subst e2;exact absurd (Uj (l:=l) g1) hk
   · exact Z3 hl g1 g2
theorem LJ {ρ:Nat->Option Nat} {L':Nat->Prop} : ∀ {fs:List CK} {cs:List AC} {x:CT fs},Tg hp fs cs=some x->(∀p∈SU fs cs,ρ p.1=p.2/\L' p.1)->(∀p∈uQ fs cs,ρ p.1=p.2/\L' p.1)->(∀j∈wO fs,ρ j=some j/\L' j)->(∀j e t xs,AC.own j∈tyC fs cs->hp[j]? ≠some (.row .mine e t xs)) ->
 Vw hp ρ L' cs (wrC fs x)/\(∀p∈Z1 fs x,VwB hp ρ L' p.1 p.2/\EI p.2=false/\ ∃s,(p.1,s)∈SU fs cs)/\ ∀p∈SU fs cs,∃b,(p.1,b)∈Z1 fs x
 | [],[],x,h,_,_,_,_=>⟨.nil,λp hp=>by simp[Z1] at hp,λp hp=>by simp[SU] at hp⟩
 | [],_::_,x,h,_,_,_,_=>by simp[Tg] at h
 | .ty t::l,cs,x,h,h1,hA,h2,h3=>by
   simp only[Tg] at h;split at h
   · rename_i x1 cs1 hx
     split at h
     · rename_i y hy
       injection h with h;subst h;obtain⟨hd,_⟩:=Jp hx;have hd':=hd;subst hd;obtain⟨q1,q2,q3⟩:=LJ hy (λp hp=>h1 p (by simpa[SU] using hp)) (λp hp=>hA p (by simpa[uQ] using hp)) h2 (λj e t' xs hj=>h3 j e t' xs (ANK _ hj));exact⟨.ty hx (λj e t' xs hj=>h3 j e t' xs (ANP _ hj)) q1 rfl,by simpa[Z1,SU] using q2,by simpa[Z1,SU] using q3⟩
     · cases h
   · cases h
 | .own _ id e t::l,[],x,h,_,_,_,_=>by simp[Tg] at h
 | .al id::l,[],x,h,_,_,_,_=>by simp[Tg] at h
 | .ptr j o::l,[],x,h,_,_,_,_=>by simp[Tg] at h
 | .Hg j::l,[],x,h,_,_,_,_=>by simp[Tg] at h
 | .map j::l,[],x,h,_,_,_,_=>by simp[Tg] at h
 | .own lq id e t::l,c::cs,x,h,h1,hA,h2,h3=>by
   cases c with
   | Bo =>
     simp only[Tg] at h;split at h
     · cases h
     split at h
     · rename_i y hy
       injection h with h;subst h;obtain⟨q1,q2,q3⟩:=LJ hy (λp hp=>h1 p (ANG _ hp)) hA h2 h3;have hh:=h1 (id,none) ANH;refine⟨.Bo hh.1 hh.2 q1,λp hp=> ?_,λp hp=> ?_⟩
       · rcases ANM.1 hp with rfl | hp
         · exact⟨.inr ⟨hh.1,rfl⟩,rfl,none,ANH⟩
         · obtain⟨z1,z2,s,z3⟩:=q2 p hp
           exact⟨z1,z2,s,ANG _ z3⟩
       · rcases ANM.1 hp with rfl | hp
         · exact⟨_,ANH⟩
         · obtain⟨b,z⟩:=q3 p hp
           exact⟨b,ANG _ z⟩
     · cases h
   | own j =>
     simp only[Tg] at h;split at h
     · rename_i lq' e' t' xs hb
       split at h
       · rename_i q
         obtain⟨rfl,rfl⟩:=q;split at h;rotate_left
         · cases h
         rename_i q;obtain⟨rfl,_⟩:=q;split at h
         · rename_i y hy
           injection h with h;subst h;obtain⟨q1,q2,q3⟩:=LJ hy (λp hp=>h1 p (ANG _ hp)) hA h2 h3;have hh:=h1 (id,some j) ANH;refine⟨.own hh.1 hh.2 ⟨_,hb,rfl⟩ q1,λp hp=> ?_,λp hp=> ?_⟩
           · rcases ANM.1 hp with rfl | hp
             · exact⟨.inl ⟨j,hh.1,hb⟩,rfl,_,ANH⟩
             · obtain⟨z1,z2,s,z3⟩:=q2 p hp
               exact⟨z1,z2,s,ANG _ z3⟩
           · rcases ANM.1 hp with rfl | hp
             · exact⟨_,ANH⟩
             · obtain⟨b,z⟩:=q3 p hp
               exact⟨b,ANG _ z⟩
         · cases h
       · cases h
     · cases h
   | _=>simp[Tg] at h
 | .al id::l,c::cs,x,h,h1,hA,h2,h3=>by
   cases c with
   | Bo =>
     simp only[Tg] at h;obtain⟨q1,q2,q3⟩:=LJ h (λp hp=>h1 p (by simpa[SU] using hp)) (λp hp=>hA p (ANG _ hp)) h2 h3;have hh:=hA (id,none) ANH;exact⟨.Bo hh.1 hh.2 q1,by simpa[Z1,SU] using q2,by simpa[Z1,SU] using q3⟩
   | own j =>
     simp only[Tg] at h;split at h
     · rename_i lq e' t' xs hb
       obtain⟨q1,q2,q3⟩:=LJ h (λp hp=>h1 p (by simpa[SU] using hp)) (λp hp=>hA p (ANG _ hp)) h2 h3;have hh:=hA (id,some j) ANH;exact⟨.own hh.1 hh.2 ⟨_,hb,rfl⟩ q1,by simpa[Z1,SU] using q2,by simpa[Z1,SU] using q3⟩
     · rename_i xs hb
       obtain⟨q1,q2,q3⟩:=LJ h (λp hp=>h1 p (by simpa[SU] using hp)) (λp hp=>hA p (ANG _ hp)) h2 h3;have hh:=hA (id,some j) ANH;exact⟨.own hh.1 hh.2 ⟨_,hb,rfl⟩ q1,by simpa[Z1,SU] using q2,by simpa[Z1,SU] using q3⟩
     · cases h
   | _=>simp[Tg] at h
 | .map id::l,c::cs,x,h,h1,hA,h2,h3=>by
   cases c with
   | own j =>
     simp only[Tg] at h;split at h
     · rename_i xs hb
       split at h
       · rename_i y hy
         injection h with h;subst h;obtain⟨q1,q2,q3⟩:=LJ hy (λp hp=>h1 p (ANG _ hp)) (λp hp=>hA p (by simpa[uQ] using hp)) h2 h3;have hh:=h1 (id,some j) ANH;refine⟨.own hh.1 hh.2 ⟨_,hb,rfl⟩ q1,λp hp=> ?_,λp hp=> ?_⟩
         · rcases ANM.1 hp with rfl | hp
           · exact⟨⟨j,hh.1,hb⟩,rfl,_,ANH⟩
           · obtain⟨z1,z2,s,z3⟩:=q2 p hp
             exact⟨z1,z2,s,ANG _ z3⟩
         · rcases ANM.1 hp with rfl | hp
           · exact⟨_,ANH⟩
           · obtain⟨b,z⟩:=q3 p hp
             exact⟨b,ANG _ z⟩
       · cases h
     · cases h
   | _=>simp[Tg] at h
 | .Hg j::l,c::cs,x,h,h1,hA,h2,h3=>by
   cases c with
   | Hg j' =>
     simp only[Tg] at h;split at h
     · rename_i q
       subst q;obtain⟨q1,q2,q3⟩:=LJ h (λp hp=>h1 p (by simpa[SU] using hp)) (λp hp=>hA p (by simpa[uQ] using hp)) (λj hj=>h2 j (ANG _ hj)) h3;have hh:=h2 _ ANH;exact⟨.Hg hh.1 hh.2 q1,by simpa[Z1,SU] using q2,by simpa[Z1,SU] using q3⟩
     · cases h
   | _=>simp[Tg] at h
 | .ptr j o::l,c::cs,x,h,h1,hA,h2,h3=>by
   cases c with
   | ptr j' o' =>
     simp only[Tg] at h;split at h
     · rename_i q
       obtain⟨rfl,rfl⟩:=q;obtain⟨q1,q2,q3⟩:=LJ h (λp hp=>h1 p (by simpa[SU] using hp)) (λp hp=>hA p (by simpa[uQ] using hp)) (λj hj=>h2 j (ANG _ hj)) h3;have hh:=h2 _ ANH;exact⟨.ptr hh.1 hh.2 q1,by simpa[Z1,SU] using q2,by simpa[Z1,SU] using q3⟩
     · cases h
   | _=>simp[Tg] at h
theorem Z4 {ρ:Nat->Option Nat} {L':Nat->Prop} : ∀ {sl:List Slot} {x:TS sl},rdS tm hp sl=some x->(∀p∈dS tm hp sl,ρ p.1=p.2/\L' p.1)->(∀p∈alS tm hp sl,ρ p.1=p.2/\L' p.1)->(∀j∈zL sl,ρ j=some j/\L' j)->(∀j e t xs,AC.own j∈rH tm hp sl->hp[j]? ≠some (.row .mine e t xs)) ->
 (∀tm1:List AV,(∀i x',tm1[i]? =some x'->x'= .FA\/ ∃cs cs',tm.getD i .FA= .val cs/\x'= .val cs'/\Vw hp ρ L' cs cs')-> ∀i x',(wrT sl x tm1)[i]? =some x'->x'= .FA\/ ∃cs cs',tm.getD i .FA= .val cs/\x'= .val cs'/\Vw hp ρ L' cs cs') /\
   (∀p∈yE sl x,VwB hp ρ L' p.1 p.2/\EI p.2=false/\ ∃s,(p.1,s)∈dS tm hp sl)/\ ∀p∈dS tm hp sl,∃b,(p.1,b)∈yE sl x
 | [],x,h,_,_,_,_=>⟨λ_ h=>h,λp hp=>by simp[yE] at hp,λp hp=>by simp[dS] at hp⟩
 | .tmp t fs::l,x,h,h1,hA,h2,h3=>by
   simp only[rdS] at h;split at h
   · rename_i hv
     split at h
     · rename_i x1 hx
       split at h
       · rename_i y hy
         injection h with h;subst h;obtain⟨q1,q2,q3⟩:=LJ hx (λp hp=>h1 p (ANP _ hp)) (λp hp=>hA p (ANP _ hp)) (λj hj=>h2 j (ANP _ hj)) (λj e t xs hj=>h3 j e t xs (ANP _ hj));obtain⟨z1,z2,z3⟩:=Z4 hy (λp hp=>h1 p (ANK _ hp)) (λp hp=>hA p (ANK _ hp)) (λj hj=>h2 j (ANK _ hj)) (λj e t xs hj=>h3 j e t xs (ANK _ hj));refine⟨λtm1 ht=>z1 _ λi x' hi=> ?_,λp hp=> ?_,λp hp=> ?_⟩
         · rw[APS] at hi
           split at hi
           · rename_i e
             subst e;split at hi
             · injection hi with hi
               subst hi;unfold isVal at hv;split at hv
               · rename_i cs hc
                 refine .inr ⟨cs,_,hc,rfl, ?_⟩;have:FQ tm hp (.tmp t fs)=cs:=(by simp only[FQ,hc,cellsOf]);rw[this] at q1;exact q1
               · cases hv
             · cases hi
           · exact ht i x' hi
         · rcases ANp.1 hp with hp | hp
           · obtain⟨y1,y2,s,y3⟩:=q2 p hp
             exact⟨y1,y2,s,ANP _ y3⟩
           · obtain⟨y1,y2,s,y3⟩:=z2 p hp
             exact⟨y1,y2,s,ANK _ y3⟩
         · rcases ANp.1 hp with hp | hp
           · obtain⟨b,y⟩:=q3 p hp
             exact⟨b,ANP _ y⟩
           · obtain⟨b,y⟩:=z3 p hp
             exact⟨b,ANK _ y⟩
       · cases h
     · cases h
   · cases h
 | .arr j e t::l,x,h,h1,hA,h2,h3=>by
   simp only[rdS] at h;split at h
   · rename_i e' t' xs hb
     split at h
     · rename_i q
       obtain⟨rfl,rfl⟩:=q;split at h
       · rename_i y hy
         injection h with h;subst h;obtain⟨z1,z2,z3⟩:=Z4 hy (λp hp=>h1 p (ANG _ hp)) hA (λi hi=>h2 i hi) h3;have hj:=h1 (j,some j) ANH;refine⟨z1,λp hp=> ?_,λp hp=> ?_⟩
         · rcases ANM.1 hp with rfl | hp
           · exact⟨.inl ⟨j,hj.1,hb⟩,rfl,some j,ANH⟩
           · obtain⟨y1,y2,s,y3⟩:=z2 p hp
             exact⟨y1,y2,s,ANG _ y3⟩
         · rcases ANM.1 hp with rfl | hp
           · exact⟨_,ANH⟩
           · obtain⟨b,y⟩:=z3 p hp
             exact⟨b,ANG _ y⟩
       · cases h
     · cases h
   · cases h
 | .C4 j lq e fs::l,x,h,h1,hA,h2,h3=>by
   simp only[rdS] at h;split at h
   · rename_i hv
     split at h
     · rename_i x1 hx
       split at h
       · rename_i y hy
         injection h with h;subst h;have h1' : ∀p∈SU fs (FQ tm hp (.C4 j lq e fs))++dS tm hp l,ρ p.1=p.2/\L' p.1:=λp hp=>h1 p (ANG _ hp)
         obtain⟨q1,q2,q3⟩:=LJ hx (λp hp=>h1' p (ANP _ hp)) (λp hp=>hA p (ANP _ hp)) (λj hj=>h2 j (ANP _ hj)) (λj e t xs hj=>h3 j e t xs (ANP _ hj));obtain⟨z1,z2,z3⟩:=Z4 hy (λp hp=>h1' p (ANK _ hp)) (λp hp=>hA p (ANK _ hp)) (λj hj=>h2 j (ANK _ hj)) (λj e t xs hj=>h3 j e t xs (ANK _ hj));have hj:=h1 (j,some j) ANH;refine⟨λtm1 ht=>z1 tm1 ht,λp hp=> ?_,λp hp=> ?_⟩
         · rcases ANM.1 hp with rfl | hp
           · clear hp
             refine⟨?_,rfl,some j,ANH⟩;unfold ADg at hv;split at hv
             · rename_i lq' e' cs hb
               obtain⟨rfl,rfl⟩:lq'=lq/\e'=e:=by simpa using hv
               have:FQ tm hp (.C4 j lq' e' fs)=cs:=(by simp only[FQ,hb]);rw[this] at q1;exact⟨j,cs,hj.1,hb,q1⟩
             · cases hv
           · rcases ANp.1 hp with hp | hp
             · obtain⟨y1,y2,s,y3⟩:=q2 p hp
               exact⟨y1,y2,s,ANG _ (ANP _ y3)⟩
             · obtain⟨y1,y2,s,y3⟩:=z2 p hp
               exact⟨y1,y2,s,ANG _ (ANK _ y3)⟩
         · rcases ANM.1 hp with rfl | hp
           · exact⟨_,ANH⟩
           · rcases ANp.1 hp with hp | hp
             · obtain⟨b,y⟩:=q3 p hp
               exact⟨b,ANG _ (ANP _ y)⟩
             · obtain⟨b,y⟩:=z3 p hp
               exact⟨b,ANG _ (ANK _ y)⟩
       · cases h
     · cases h
   · cases h
theorem Z5 : ∀ {l:List (Nat × AB)} {i:Nat} {b:AB},l8 l i=some b->(i,b)∈l
 | (j,c)::l,i,b,h=>by
   unfold l8 at h;split at h
   · rename_i e;injection h with h;subst e h;exact ANH
   · exact ANG _ (Z5 h)
theorem m8 : ∀ {l:List (Nat × AB)} {i:Nat} {b:AB},(i,b)∈l-> ∃c,l8 l i=some c
 | (j,c)::l,i,b,h=>by
   unfold l8;by_cases e:j=i
   · exact⟨c,if_pos e⟩
   · rw[if_neg e]
     exact m8 ((ANM.1 h).resolve_left λz=>e (by injection z with z _;exact z.symm))
theorem ZA : ∀ {sl:List Slot} {x:TS sl} {tm:List AV},(wrT sl x tm).length=tm.length
 | [],_,_=>rfl
 | .tmp t fs::l,(x,y),tm=>by simp only[wrT,ZA (sl:=l),AN3]
 | .C4 _ _ _ _::l,(x,y),tm=>ZA (sl:=l)
 | .arr _ _ _::l,(x,y),tm=>ZA (sl:=l)
theorem XU {l:List (Nat × AB)} (h:Mo hp l) (s:Slot):FQ tm (DB l hp) s=FQ tm hp s:=by
 cases s with
 | tmp t fs=>rfl
 | arr j e t=>rfl
 | C4 j lq e fs =>
   simp only[FQ];rcases FR h j with q | ⟨e',t',xs',q1,q2,_⟩
   · rw[q]
   · rw[q1,q2]
theorem ZB {l:List (Nat × AB)} (h:Mo hp l) : ∀(sl:List Slot),rH tm (DB l hp) sl=rH tm hp sl
 | []=>rfl
 | .tmp t fs::sl=>by simp only[rH,XU h,ZB h sl]
 | .C4 j lq e fs::sl=>by simp only[rH,XU h,ZB h sl]
 | .arr j e t::sl=>by simp only[rH,ZB h sl]
theorem Rj : ∀ {sl:List Slot} {j:Nat},j∈zM sl->(j,some j)∈dS tm hp sl
 | .tmp t fs::l,j,h=>ANK _ (Rj (sl:=l) h)
 | .C4 i lq e fs::l,j,h=>by
   rcases ANM.1 h with rfl | h
   · exact ANH
   · exact ANG _ (ANK _ (Rj h))
 | .arr i e t::l,j,h=>by
   rcases ANM.1 h with rfl | h
   · exact ANH
   · exact ANG _ (Rj h)
theorem P7 : ∀ {l:List (Nat × Option Nat)} {j:Nat} {u:Option Nat},zN l j u=true->(j,u)∈l
 | (i,s)::l,j,u,h=>by
   simp only[zN,AOi,ANQ,beq_iff_eq] at h;rcases h with⟨rfl,rfl⟩ | h
   · exact ANH
   · exact ANG _ (P7 h)
theorem Inv.cut (I:Inv U0 ν tm hp w0 a w) (hU : ∀k,U0 k->k<w0.heap.size) {R:Type} {r:R} {N:CN} {k:Nat} {sl:List Slot} {g:Nat->TS sl->Option R} (hF : ∀p∈w0.fx,p.1∈N.f) (h:(zO N sl g k tm hp).run=some r) : ∃x ν',g k x=some r/\Inv U0 ν' (m6 N sl x) (Th N sl x) w0 a w:=by
 unfold zO at h;rw[iI] at h;split at h
 · rename_i hfit
   split at h
   · rename_i x hx
     obtain⟨y,hy,he⟩:=Tree.Rf h;have he:some y=some r:=he;injection he with he;subst he;have hfz:=KS (hp:=hp) (rH tm hp sl);obtain⟨ν',I'⟩:=I.IA hU hfz;generalize hhp:DB (Kb hp (rH tm hp sl)) hp=B0 at *;simp only[AGI,ANQ,beq_iff_eq,ANy,decide_eq_true_eq,AOp] at hfit;obtain⟨⟨⟨⟨⟨⟨f1,f6⟩,f7⟩,f2⟩,f3⟩,f4⟩,f5⟩:=hfit;have hno : ∀j e t xs,AC.own j∈rH tm B0 sl->B0[j]? ≠some (.row .mine e t xs):=λj e t xs hj hb=>by
      have hj':AC.own j∈rH tm hp sl:=(by rw[<-hhp,ZB hfz] at hj;exact hj);have hi:JF (Kb hp (rH tm hp sl)) j=true:=by
       rcases FR hfz j with q | ⟨e',t',xs',q1,q2,q3⟩
       · rw[hhp,hb] at q
         exact Mp hj' q.symm
       · exact q3
      obtain⟨_,_,_,z⟩:=iX hfz hi;rw[hhp,hb] at z;cases z
     have hro:=m7 f2;have hcut : ∀i,i<N.m->(Th N sl x)[i]? =some (match l8 (yE sl x) i with
      | some b=>b
      | none=> .gone):=λi hi=>by
      unfold Th;rw[Zx (by simpa using hi)];cases l8 (yE sl x) i with
      | some b=>rfl
      | none=>simp[ANJ,hi]
     have hge : ∀i,N.m<=i->(Th N sl x)[i]? =none:=λi hi=>ANq (by unfold Th;rw[Uh];simpa using hi)
     obtain⟨_,b1,b2⟩:=Z4 (ρ:=iW (dS tm B0 sl)) (L':=λ_=>True) hx (λp hp=>⟨hro p hp,trivial⟩) (λp hp=>⟨hro p (P7 (f6 p hp)),trivial⟩) (λj hj=>⟨hro (j,some j) (Rj (f5 j hj)),trivial⟩) hno;have hlv : ∀p∈dS tm B0 sl,lv (Th N sl x) p.1:=λp hp=>by
      obtain⟨b,hb⟩:=b2 p hp;obtain⟨c,hc⟩:=m8 hb;refine⟨c,by rw[hcut p.1 (f4 p hp),hc],(b1 (p.1,c) (Z5 hc)).2.1⟩
     obtain⟨c0,c1,c2⟩:=Z4 (ρ:=iW (dS tm B0 sl)) (L':=lv (Th N sl x)) hx (λp hp=>⟨hro p hp,hlv p hp⟩) (λp hp=>⟨hro p (P7 (f6 p hp)),hlv p (P7 (f6 p hp))⟩) (λj hj=>⟨hro (j,some j) (Rj (f5 j hj)),hlv (j,some j) (Rj (f5 j hj))⟩) hno;have hin : ∀i,lv (Th N sl x) i-> ∃s,(i,s)∈dS tm B0 sl:=λi ⟨b,h1,h2⟩=>by
      rcases ANs i N.m with hi | hi
      · rw[hcut i hi] at h1
        cases hc:l8 (yE sl x) i with
        | none=>rw[hc] at h1;injection h1 with h1;subst h1;cases h2
        | some c=>exact(c1 (i,c) (Z5 hc)).2.2
      · rw[hge i hi] at h1;cases h1
     refine⟨x,seen ν' (iW (dS tm B0 sl)),hy,I'.view hU (by unfold m6;rw[ZA];simp[f1]) (λi x' hi=> ?_) (λi b' h1 h2=> ?_) (λi i' j hii hi hi' h1 h2=> ?_) (λp hp=> ?_)⟩
     · refine c0 _ (λi x' hi=> .inl ?_) i x' hi
       rw[AOX] at hi;split at hi
       · injection hi with hi;exact hi.symm
       · cases hi
     · rcases ANs i N.m with hi | hi
       · rw[hcut i hi] at h1
         cases hc:l8 (yE sl x) i with
         | none=>rw[hc] at h1;injection h1 with h1;subst h1;cases h2
         | some c =>
           rw[hc] at h1;injection h1 with h1;subst h1;exact(c1 (i,c) (Z5 hc)).1
       · rw[hge i hi] at h1;cases h1
     · obtain⟨s,hs⟩:=hin i hi
       obtain⟨s',hs'⟩:=hin i' hi';have e1:=hro _ hs;have e2:=hro _ hs';rw[h1] at e1;rw[h2] at e2;have e1:some j=s:=e1;have e2:some j=s':=e2;subst e1 e2;exact hii (Z3 f3 hs hs')
     · have hr:=P7 (f7 p.1 (hF p hp))
       have e1:=hro _ hr;obtain⟨b',h1,h2⟩:=hlv _ hr;refine⟨e1,b',h1, ?_⟩;obtain⟨_,b0,z1,z2⟩:=I'.fx p hp;have hv:VwB B0 (iW (dS tm B0 sl)) (lv (Th N sl x)) p.1 b':=by
        rw[hcut p.1 (f4 _ hr)] at h1;cases hc:l8 (yE sl x) p.1 with
        | none=>rw[hc] at h1;injection h1 with h1;subst h1;cases h2
        | some c=>rw[hc] at h1;injection h1 with h1;subst h1;exact(c1 (p.1,c) (Z5 hc)).1
       have e1:iW (dS tm B0 sl) p.1=some p.1:=e1;cases b' with
       | row q e t xs =>
         rcases hv with⟨j,q1,q2⟩ | ⟨q1,_⟩
         · rw[e1] at q1;injection q1 with q1;subst q1
           rw[z1] at q2;injection q2 with q2;subst q2;exact z2
         · rw[e1] at q1;cases q1
       | cells q e cs =>
         obtain⟨j,cs0,q1,q2,_⟩:=hv;rw[e1] at q1;injection q1 with q1;subst q1;rw[z1] at q2;injection q2 with q2;subst q2;cases q<;>exact z2
       | map xs =>
         obtain⟨j,q1,q2⟩:=hv;rw[e1] at q1;injection q1 with q1;subst q1;rw[z1] at q2;injection q2 with q2;subst q2;exact z2
       | _=>exact hv.elim
   · cases h
 · cases h
end
end
section
inductive Ex where
 | normal | ret | exit (id:Nat)
def loops:Code->Nat
 | .seq a b=>loops a+loops b
 | .cond _ x y=>loops x+loops y
 | .block _ b=>loops b
 | .loop c=>loops c+1
 | .scope c=>loops c
 | _=>0
abbrev FO (R:Type):=Nat->Ex->List AV->List AB->Tree R
structure Cut (R:Type) where
 sl:List Slot
 g:Nat->TS sl->Option R
structure Bu (R:Type) where
 N:CN
 lp:Nat->Option (Cut R)
 rb:Nat->Option (Cut R)
 ra:Nat->Option (Cut R)
def AH {R:Type} :List (Nat × Cut R)->Nat->Option (Cut R)
 | [],_=>none
 | (u,c)::l,i=>if i=u then some c else AH l i
section
variable {R:Type}
def Cut.go (N:CN) (c:Cut R) (k:Nat) (tm:List AV) (hp:List AB):Tree R:=zO N c.sl c.g k tm hp
def zQ (d:FO R->Nat->List AV->List AB->Tree R) (K:FO R):FO R:=λk e tm hp=>match e with
 | .normal=>d K k tm hp
 | e=>K k e tm hp
def inB (id:Nat):Ex->Ex
 | .exit j=>if j=id then .normal else .exit j
 | e=>e
def zS (id:Nat) (K:FO R):FO R:=λk e tm hp=>K k (inB id e) tm hp
def Ti (N:CN) (c:Cut R) (K:FO R):FO R:=λk e tm hp=>match e with
 | .normal=>c.go N k tm hp
 | e=>K k e tm hp
noncomputable def rI (Θ:JE) (S:FuncId->Option FE) (Bt:Nat->List Nat) (id:Nat) (ops:Array Oper) (draw:Bool) (K:FO R) (k:Nat) (tm:List AV) (hp:List AB):Tree R :=
 if draw=true then Td Θ S k ops (Bt id) ops.toList 0 [] tm hp (K k .normal) else P8 Θ S k ops ops.toList tm hp (K k .normal)
def behind (C:Bu R) (id:Nat) (K:FO R):FO R:=match C.ra id with
 | some ct=>Ti C.N ct K
 | none=>K
noncomputable def den (Θ:JE) (S:FuncId->Option FE) (Bt:Nat->List Nat) (C:Bu R) (c:Code):Nat->FO R->Nat->List AV->List AB->Tree R :=
 Code.rec (motive:=λ_=>Nat->FO R->Nat->List AV->List AB->Tree R)
  (λ_ K k tm hp=>K k .normal tm hp)
  (λid ops draw _ K k tm hp=>match C.rb id with
    | some ct=>ct.go C.N k tm hp
    | none=>rI Θ S Bt id ops draw (behind C id K) k tm hp)
  (λa _ da db n K k tm hp=>da n (zQ (db (n+loops a)) K) k tm hp)
  (λc x _ dx dy n K k tm hp=>match AQ tm c with
    | .val [.ro .bool b]=>Tree.J2 ((b:Bool)=true) (dx n K k tm hp) (dy (n+loops x) K k tm hp)
    | _=> .non)
  (λid _ db n K k tm hp=>db n (zS id K) k tm hp)
  (λ_ _ n _ k tm hp=>match C.lp n with
    | some ct=>ct.go C.N k tm hp
    | none=> .non)
  (λ_ _ _ _ _ _ _ _ _ _ _=> .non)
  (λid _ K k tm hp=>K k (.exit id) tm hp)
  (λ_ db n K k tm hp=>db n K k tm hp)
  (λ_ _ K k tm hp=>K k .normal tm hp)
  (λ_ _ _ _ _ _=> .non)
  (λ_ K k tm hp=>K k .ret tm hp)
  (λ_ _ _ _ _ _=> .non) c
def iY (ops:Array Oper):Bool:=ops.all λo=>match o.op with
 | .store .. =>o.dst.isNone
 | _=>true
def IQ (Bt:Nat->List Nat):Code->Bool
 | .seq a b=>IQ Bt a&&IQ Bt b
 | .cond _ x y=>IQ Bt x&&IQ Bt y
 | .block _ b=>IQ Bt b
 | .scope b=>IQ Bt b
 | .loop c=>IQ Bt c
 | .region id ops draw=>iY ops&&(!draw || AEn ops (Bt id))
 | _=>true
def ObD (C:Bu R) (ct:Cut R) (D:Nat->List AV->List AB->Tree R):Prop:= ∀k x r,ct.g k x=some r-> ∃k',k'<=k/\(D k' (m6 C.N ct.sl x) (Th C.N ct.sl x)).run=some r
def obA (C:Bu R) (id:Nat) (K:FO R) (q:Prop):Prop:=match C.ra id with
 | some ct=>ObD C ct (λk=>K k .normal)/\q
 | none=>q
theorem m9 {C:Bu R} {id:Nat} {K:FO R} {q:Prop} (h:obA C id K q):q:=by
 unfold obA at h;split at h
 · exact h.2
 · exact h
def ObL (C:Bu R) (ct:Cut R) (D:Nat->List AV->List AB->Tree R):Prop:= ∀k x r,ct.g k x=some r-> ∃k',k'<k/\(D k' (m6 C.N ct.sl x) (Th C.N ct.sl x)).run=some r
noncomputable def obs (Θ:JE) (S:FuncId->Option FE) (Bt:Nat->List Nat) (C:Bu R) (c:Code):Nat->FO R->Prop->Prop :=
 Code.rec (motive:=λ_=>Nat->FO R->Prop->Prop)
  (λ_ _ q=>q)
  (λid ops draw _ K q=>match C.rb id with
    | some ct=>ObD C ct (rI Θ S Bt id ops draw (behind C id K))/\obA C id K q
    | none=>obA C id K q)
  (λa b da db n K q=>da n (zQ (den Θ S Bt C b (n+loops a)) K) (db (n+loops a) K q))
  (λ_ x _ dx dy n K q=>dx n K (dy (n+loops x) K q))
  (λid _ db n K q=>db n (zS id K) q)
  (λb db n K q=>match C.lp n with
    | some ct=>ObL C ct (den Θ S Bt C b (n+1) (Ti C.N ct K))/\db (n+1) (Ti C.N ct K) q
    | none=>db (n+1) K q)
  (λ_ _ _ _ _ _ _ _ q=>q)
  (λ_ _ _ q=>q)
  (λ_ db n K q=>db n K q)
  (λ_ _ _ q=>q)
  (λ_ _ _ q=>q)
  (λ_ _ q=>q)
  (λ_ _ _ q=>q) c
theorem Hr {Θ:JE} {S:FuncId->Option FE} {Bt:Nat->List Nat} {C:Bu R} : ∀(c:Code) (n:Nat) (K:FO R) (q:Prop),obs Θ S Bt C c n K q->q
 | .skip,_,_,_,h=>h
 | .region id ops draw,n,K,q,h=>by
   change (match C.rb id with
    | some ct=>ObD C ct (rI Θ S Bt id ops draw (behind C id K))/\obA C id K q
    | none=>obA C id K q) at h
   split at h
   · exact m9 h.2
   · exact m9 h
 | .seq a b,n,K,q,h=>Hr b _ _ _ (Hr a _ _ _ h)
 | .cond _ x y,n,K,q,h=>Hr y _ _ _ (Hr x _ _ _ h)
 | .block id b,n,K,q,h=>Hr b _ _ _ h
 | .loop b,n,K,q,h=>by
   change (match C.lp n with
    | some ct=>ObL C ct (den Θ S Bt C b (n+1) (Ti C.N ct K))/\obs Θ S Bt C b (n+1) (Ti C.N ct K) q
    | none=>obs Θ S Bt C b (n+1) K q) at h
   split at h
   · exact Hr b _ _ _ h.2
   · exact Hr b _ _ _ h
 | .scope b,n,K,q,h=>Hr b _ _ _ h
 | .exit _,_,_,_,h=>h
 | .label _,_,_,_,h=>h
 | .goto _,_,_,_,h=>h
 | .ret,_,_,_,h=>h
 | .rangeFunc ..,_,_,_,h=>h
 | .refuse _,_,_,_,h=>h
end
def AJN:Ex->Exit
 | .normal=> .normal
 | .ret=> .ret
 | .exit id=> .exit id
section
variable {P:Program} {Θ:JE} {S:FuncId->Option FE} {U0:Nat->Prop} {w0:St} {R:Type} {r:R} {Bt:Nat->List Nat} {C:Bu R}
theorem FP.less {k k0:Nat} (h:FP P S k0) (hk:k<=k0):FP P S k:=λg s hs=>⟨(h g s hs).1,λq hq=>(h g s hs).2 q (AN6 hq hk)⟩
def Fits (U0:Nat->Prop) (w0:St) (k0:Nat) (r:R) (K:FO R) (Q:Exit->Act->World->Prop):Prop:= ∀k e tm hp,k<=k0->(K k e tm hp).run=some r-> ∀ν a w,Inv U0 ν tm hp w0 a w->Q (AJN e) a w
theorem zT {k0:Nat} {d:FO R->Nat->List AV->List AB->Tree R} {K:FO R} {Q:Exit->Act->World->Prop} {next:Act->World->Prop} (h:Fits U0 w0 k0 r K Q) (hn : ∀k tm hp,k<=k0->(d K k tm hp).run=some r-> ∀ν a w,Inv U0 ν tm hp w0 a w->next a w):Fits U0 w0 k0 r (zQ d K) (Exit.then next Q):=by
 intro k e tm hp hk hK ν a w I;cases e with
 | normal=>exact hn k tm hp hk hK ν a w I
 | ret=>exact h k .ret tm hp hk hK ν a w I
 | exit id=>exact h k (.exit id) tm hp hk hK ν a w I
theorem zU {k0 id:Nat} {K:FO R} {Q:Exit->Act->World->Prop} (h:Fits U0 w0 k0 r K Q):Fits U0 w0 k0 r (zS id K) (Exit.inBlock id Q):=by
 intro k e tm hp hk hK ν a w I;cases e with
 | normal=>exact h k .normal tm hp hk hK ν a w I
 | ret=>exact h k .ret tm hp hk hK ν a w I
 | exit j =>
   have hK:(K k (if j=id then Ex.normal else Ex.exit j) tm hp).run=some r:=hK;show(if j=id then Q .normal a w else Q (.exit j) a w);by_cases hj:j=id
   · rw[if_pos hj] at hK ⊢;exact h k .normal tm hp hk hK ν a w I
   · rw[if_neg hj] at hK ⊢;exact h k (.exit j) tm hp hk hK ν a w I
theorem XV (Yf : ∀q,U0 q->q<w0.heap.size) (hF : ∀p∈w0.fx,p.1∈C.N.f) {k0 id:Nat} {K:FO R} {Q:Exit->Act->World->Prop} {q:Prop} (ho:obA C id K q) (h:Fits U0 w0 k0 r K Q):Fits U0 w0 k0 r (behind C id K) Q:=by
 unfold behind;unfold obA at ho;split at ho
 · rename_i ct he
   intro k e tm hp hk hK ν a w I;cases e with
   | normal =>
     obtain⟨x,ν',hg,I'⟩:=I.cut Yf hF hK;obtain⟨k',hk',hd⟩:=ho.1 k x r hg;exact h k' .normal _ _ (by omega) hd ν' a w I'
   | ret=>exact h k .ret tm hp hk hK ν a w I
   | exit id=>exact h k (.exit id) tm hp hk hK ν a w I
 · exact h
theorem rJ {k0:Nat} {K:FO R} {Q:Exit->Act->World->Prop} (h:Fits U0 w0 k0 r K Q):Fits U0 w0 k0 r K (Exit.noGoto Q):=by
 intro k e tm hp hk hK ν a w I;cases e with
 | normal=>exact h k .normal tm hp hk hK ν a w I
 | ret=>exact h k .ret tm hp hk hK ν a w I
 | exit id=>exact h k (.exit id) tm hp hk hK ν a w I
theorem fF {ops:Array Oper} (h:iY ops=true) : ∀o∈ops.toList,∀t x y,o.op= .store t x y->o.dst=none:=by
 intro o ho t x y hop;unfold iY at h;rw[Array.all_eq_true'] at h;have:=h o (by simpa using ho);rw[hop] at this;simpa using this
theorem Inv.drawn {ν:Nat->Value} {tm:List AV} {hp:List AB} {a:Act} {w:World} (I:Inv U0 ν tm hp w0 a w):Inv U0 ν tm hp w0 a {w with drawn:=w.drawn+1} :=
 I.go (a:=a) none .FA undef (ANS _) (λ_ _=>rfl) (λj hj k hk=>(I.lt hj hk).1) trivial (I.fr.step ⟨rfl,rfl,rfl,ANS _,λ_ _=>rfl⟩)
theorem fG (hm:P.follows .mixedOrders=true) (hΘ:Θ.ok P=true) (Yf : ∀q,U0 q->q<w0.heap.size) (hF : ∀p∈w0.fx,p.1∈C.N.f) {id:Nat} {ops:Array Oper} {draw:Bool} {k0:Nat} {K:FO R} {Q:Exit->Act->World->Prop} (hS:FP P S k0) (hc:IQ Bt (.region id ops draw)=true) (hK:Fits U0 w0 k0 r K Q)
 {k:Nat} {tm:List AV} {hp:List AB} (hk:k<=k0) (h:(rI Θ S Bt id ops draw K k tm hp).run=some r) {ν:Nat->Value} {a:Act} {w:World} (I:Inv U0 ν tm hp w0 a w):(Code.region id ops draw).wp P Q a w:=by
 simp only[IQ,ANQ,AOi,AOc] at hc;unfold rI at h;split at h
 · rename_i hd
   subst hd;have hr:AEn ops (Bt id)=true:=hc.2.resolve_left (by simp);unfold AEn at hr;rw[ANQ] at hr;obtain⟨us,rec,AJO⟩:=OA ops.toList 0 (λ_=>⟨.FA,H0,[]⟩) [] tm hp rfl ⟨rfl,λj hj=>by omega,λa b ha=>by omega,mj.symm,mo.symm⟩ (by simp) h;refine wp_region_any hm ?_;have hfalse : ∀ {j:Nat},j<ops.size->dn (Array.replicate ops.size false) j=false:=λ{j} hj=>by unfold dn;simp[hj]
   have e1:SQ ops us tm (dn (Array.replicate ops.size false)) ops.size=tm:=by
    have:SQ ops us tm (dn (Array.replicate ops.size false)) ops.size=SQ ops us tm (dn (Array.replicate ops.size false)) 0:=by
     unfold SQ;exact AOE λt _=>Uk _ _ (by omega) λm _ hm _=>hfalse hm
    rw[this,mj]
   have e2:SR ops us hp (dn (Array.replicate ops.size false)) ops.size=hp:=by
    have:SR ops us hp (dn (Array.replicate ops.size false)) ops.size=SR ops us hp (dn (Array.replicate ops.size false)) 0:=by
     unfold SR;exact AOE λt _=>Uk _ _ (by omega) λm _ hm _=>hfalse hm
    rw[this,mo]
   refine AEp hΘ (hS.less hk) hr.1 hr.2 (fF hc.1) rec Yf (λν' a' w' I=>hK k .normal _ _ hk AJO ν' a' w' I) ops.size _ ν a _ (by simp) (λj hj hd=>by rw[hfalse hj] at hd;cases hd) ?_ (by rw[e1,e2];exact I.drawn);unfold left;exact AN6 List.countP_le_length (by simp)
 · rename_i hd
   have hd:draw=false:=(by simpa using hd);subst hd;refine wp_region_list ?_;exact iZ hΘ (hS.less hk) (λEl B0 h' ν' a' w' I'=>hK k .normal El B0 hk h' ν' a' w' I') Yf ops.toList tm hp ν a w (fF hc.1) h I
theorem Jq (hm:P.follows .mixedOrders=true) (hΘ:Θ.ok P=true) (Yf : ∀q,U0 q->q<w0.heap.size) (hF : ∀p∈w0.fx,p.1∈C.N.f) : ∀(c:Code) (k0:Nat) (n:Nat) (K:FO R) (Q:Exit->Act->World->Prop) (q:Prop),FP P S k0->IQ Bt c=true->obs Θ S Bt C c n K q->Fits U0 w0 k0 r K Q ->
 ∀(k:Nat) (tm:List AV) (hp:List AB),k<=k0->(den Θ S Bt C c n K k tm hp).run=some r-> ∀(ν:Nat->Value) (a:Act) (w:World),Inv U0 ν tm hp w0 a w->c.wp P Q a w
 | .skip,k0,n,K,Q,_,_,_,_,hK,k,tm,hp,hk,h,ν,a,w,I=>wp_skip (hK k .normal tm hp hk h ν a w I)
 | .exit id,k0,n,K,Q,_,_,_,_,hK,k,tm,hp,hk,h,ν,a,w,I=>wp_exit (hK k (.exit id) tm hp hk h ν a w I)
 | .ret,k0,n,K,Q,_,_,_,_,hK,k,tm,hp,hk,h,ν,a,w,I=>wp_ret (hK k .ret tm hp hk h ν a w I)
 | .region id ops draw,k0,n,K,Q,q,hS,hc,hl,hK,k,tm,hp,hk,h,ν,a,w,I=>by
   replace h:(match C.rb id with
    | some ct=>ct.go C.N k tm hp
    | none=>rI Θ S Bt id ops draw (behind C id K) k tm hp).run=some r:=h
   replace hl:(match C.rb id with
    | some ct=>ObD C ct (rI Θ S Bt id ops draw (behind C id K))/\obA C id K q
    | none=>obA C id K q):=hl
   split at h
   · rename_i ct he
     rw[he] at hl;obtain⟨x,ν',hg,I'⟩:=I.cut Yf hF h;obtain⟨k',hk',hd⟩:=hl.1 k x r hg;exact fG hm hΘ Yf hF hS hc (XV Yf hF hl.2 hK) (by omega) hd I'
   · rename_i he
     rw[he] at hl;exact fG hm hΘ Yf hF hS hc (XV Yf hF hl hK) hk h I
 | .seq x y,k0,n,K,Q,_,hS,hc,hl,hK,k,tm,hp,hk,h,ν,a,w,I=>by
   simp only[IQ,ANQ] at hc;refine wp_seq ?_;exact Jq hm hΘ Yf hF x k0 n _ _ _ hS hc.1 hl (zT hK λk' El B0 hk' h' ν' a' w' I'=>Jq hm hΘ Yf hF y k0 (n+loops x) K Q _ hS hc.2 (Hr x _ _ _ hl) hK k' El B0 hk' h' ν' a' w' I') k tm hp hk h ν a w I
 | .cond c x y,k0,n,K,Q,_,hS,hc,hl,hK,k,tm,hp,hk,h,ν,a,w,I=>by
   simp only[IQ,ANQ] at hc
   replace h:(match AQ tm c with
    | .val [.ro .bool b]=>Tree.J2 ((b:Bool)=true) (den Θ S Bt C x n K k tm hp) (den Θ S Bt C y (n+loops x) K k tm hp)
    | _=> .non).run=some r:=h
   split at h
   · rename_i b hb
     have hv:=Rg (hb▸I.AQ c);refine wp_cond_split hv (λht=> ?_) (λhf=> ?_)
     · rcases Tree.Ln h with⟨_,h⟩ | ⟨hn,_⟩
       · exact Jq hm hΘ Yf hF x k0 n K Q _ hS hc.1 hl hK k tm hp hk h ν a w I
       · exact absurd ht hn
     · rcases Tree.Ln h with⟨hn,_⟩ | ⟨_,h⟩
       · rw[hf] at hn;cases hn
       · exact Jq hm hΘ Yf hF y k0 (n+loops x) K Q _ hS hc.2 (Hr x _ _ _ hl) hK k tm hp hk h ν a w I
   · cases h
 | .block id b,k0,n,K,Q,q,hS,hc,hl,hK,k,tm,hp,hk,h,ν,a,w,I=>wp_block (Jq hm hΘ Yf hF b k0 n _ _ _ hS hc hl (zU hK) k tm hp hk h ν a w I)
 | .loop c,k0,n,K,Q,q,hS,hc,hl,hK,k,tm,hp,hk,h,ν,a,w,I=>by
   replace h:(match C.lp n with
    | some ct=>ct.go C.N k tm hp
    | none=> .non).run=some r:=h
   replace hl:(match C.lp n with
    | some ct=>ObL C ct (den Θ S Bt C c (n+1) (Ti C.N ct K))/\obs Θ S Bt C c (n+1) (Ti C.N ct K) q
    | none=>obs Θ S Bt C c (n+1) K q):=hl
   split at h
   · rename_i ct he
     rw[he] at hl;refine wp_loop_ghost (λm a w=>m<=k0/\ ∃tm hp ν,(ct.go C.N m tm hp).run=some r/\Inv U0 ν tm hp w0 a w) k ⟨hk,tm,hp,ν,h,I⟩ ?_;rintro m a w ⟨hm0,tm,hp,ν,hJ,I⟩;obtain⟨x,ν',hg,I'⟩:=I.cut Yf hF hJ;obtain⟨k',hk',hd⟩:=hl.1 m x r hg;refine Jq hm hΘ Yf hF c k' (n+1) _ _ _ (hS.less (by omega)) hc hl.2 ?_ k' _ _ (ANS _) hd ν' a w I';intro k2 e tm2 Lg hk2 hK2 ν2 a2 w2 I2;cases e with
     | normal=>exact⟨k2,by omega,by omega,tm2,Lg,ν2,hK2,I2⟩
     | ret=>exact hK k2 .ret tm2 Lg (by omega) hK2 ν2 a2 w2 I2
     | exit id=>exact hK k2 (.exit id) tm2 Lg (by omega) hK2 ν2 a2 w2 I2
   · cases h
 | .label _,k0,n,K,Q,_,_,_,_,hK,k,tm,hp,hk,h,ν,a,w,I=>wp_label (hK k .normal tm hp hk h ν a w I)
 | .goto _,_,_,_,_,_,_,_,_,_,_,_,_,_,h,_,_,_,_=>absurd (show(Tree.non:Tree R).run=some r from h) (λz=>Tree.Gd z)
 | .refuse _,_,_,_,_,_,_,_,_,_,_,_,_,_,h,_,_,_,_=>absurd (show(Tree.non:Tree R).run=some r from h) (λz=>Tree.Gd z)
 | .scope b,k0,n,K,Q,q,hS,hc,hl,hK,k,tm,hp,hk,h,ν,a,w,I=>wp_scope_straight (Jq hm hΘ Yf hF b k0 n _ _ _ hS hc hl (rJ hK) k tm hp hk h ν a w I)
 | .rangeFunc ..,_,_,_,_,_,_,_,_,_,_,_,_,_,h,_,_,_,_=>absurd (show(Tree.non:Tree R).run=some r from h) (λz=>Tree.Gd z)
end
end
section
def rK:(ps:List Ty)->TT ps->List AV
 | [],_=> []
 | t::ts,(x,y)=> .val (WQ t x)::rK ts y
def dU (Θ:JE) (tm:List AV) (hp:List AB):(rs:List Ty)->List ResultVar->Option (TT rs)
 | [],[]=>some ()
 | t::ts, .tmp q::os=>match AQ tm (.tmp q) with
   | .val cs=>match Ee hp t cs with
     | some (x,[])=>match dU Θ tm hp ts os with
       | some xs=>some (x,xs)
       | none=>none
     | _=>none
   | _=>none
 | t::ts, .cell q u::os=>match AQ tm (.tmp q),ti Θ u with
   | .val [.ptr j 0],some i=>match hp[j]? with
     | some (.cells _ _ cs)=>if i.size=cs.length then(match Ee hp t cs with
       | some (x,[])=>match dU Θ tm hp ts os with
         | some xs=>some (x,xs)
         | none=>none
       | _=>none) else none
     | _=>none
   | _,_=>none
 | _,_=>none
def K0 (Θ:JE) (rs:List Ty) (vs:List ResultVar):FO (TT rs):=λk e tm hp=>match e with
 | .exit _=> .non
 | _=>ofO (dU Θ tm hp rs vs)
def IP (n:Nat) (ps:List Ty) (x:TT ps):List AV:=rK ps x++List.replicate (n-ps.length) .FA
section
variable {P:Program} {Θ:JE} {S:FuncId->Option FE} {U0:Nat->Prop} {ν:Nat->Value} {tm:List AV} {hp:List AB} {w0:St} {w:World} {a:Act}
theorem Z6 : ∀ {ps:List Ty} {x:TT ps},(rK ps x).length=ps.length
 | [],_=>rfl
 | t::ts,x=>congrArg (· +1) Z6
theorem Z7 {ν:Nat->Value} {L:Nat->Prop} : ∀ {ps:List Ty} {x:TT ps} {vs:List Value},SV (Un U0 ν L) w ps x vs->vs.length=ps.length/\ ∀(i:Nat) (y:AV),(rK ps x)[i]? =some y-> ∃v:Value,vs[i]? =some v/\Fa U0 ν L w y v
 | [],x,vs,h=>by rw[show vs= [] from h];exact⟨rfl,λi y hy=>by simp[rK] at hy⟩
 | t::ts,x,v::vs,⟨⟨cs,h1,h2⟩,h3⟩=>by
   obtain⟨q1,q2⟩:=Z7 h3;refine⟨congrArg (· +1) q1,λi y hy=> ?_⟩;cases i with
   | zero =>
     simp only[rK,AOf] at hy;injection hy with hy;subst hy;exact⟨v,rfl,cs,h1,Gj t x.1 h2⟩
   | succ i =>
     simp only[rK,AOW] at hy;exact q2 i y hy
 | _::_,_,[],h=>h.elim
def Rk (tmps:Array Value):ResultVar->Sem Value
 | .tmp t=>pure (tmps.getD t undef)
 | .cell a t=>do loadVar t (<-asAddr (tmps.getD a undef))
theorem nA (I:Inv U0 ν tm hp w0 a w) {U:Nat->Prop} (hU : ∀k,k<w.heap.size->U k->Un U0 ν (lv hp) k) {t:Ty} {cs:List AC} {x:T t} {vs:List Value} (hm:Cc U ν hp cs) (h:Ee hp t cs=some (x,[])) (hr:CD (CW U0 ν (lv hp) w) cs vs):Rd U w t x vs:=by
 obtain⟨v1,v2,e1,e2,e3,_⟩:=Kk I hU hm h hr;have:v2= []:=by
  cases v2 with
  | nil=>rfl
  | cons _ _=>exact e3.elim
 subst this;rw[AOa] at e1;exact e1▸e2
def ACO (tm:List AV) (hp:List AB):ResultVar->List AC
 | .tmp q=>cellsOf (AQ tm (.tmp q))
 | .cell q _=>match AQ tm (.tmp q) with
   | .val [.ptr j 0]=>match hp[j]? with
     | some (.cells _ _ cs)=>cs
     | _=> []
   | _=> []
theorem Ul (hΘ:Θ.ok P=true) (I:Inv U0 ν tm hp w0 a w) {U:Nat->Prop} (hU : ∀k,k<w.heap.size->U k->Un U0 ν (lv hp) k) : ∀ {rs:List Ty} {os:List ResultVar} {x:TT rs},(∀o∈os,Cc U ν hp (ACO tm hp o))->dU Θ tm hp rs os=some x-> ∃us,(os.mapM (Rk a.tmps)).run P w= .ok us w/\ia U w rs x us
 | [],[],x,hT,h=>⟨[],by simp,rfl⟩
 | t::ts, .tmp q::os,x,hT,h=>by
   simp only[dU] at h;split at h
   · rename_i cs hc
     split at h
     · rename_i y hy
       split at h
       · rename_i ys hys
         injection h with h;subst h;obtain⟨vs,h1,h2⟩:=hc▸I.AQ (.tmp q);obtain⟨us,e1,e2⟩:=Ul hΘ I hU (λo ho=>hT o (ANG _ ho)) hys;have hT0:=hT _ ANH;simp only[ACO,hc,cellsOf] at hT0;refine⟨Ny vs::us, ?_,⟨vs,rfl,nA I hU hT0 hy h2⟩,e2⟩;have h1:a.tmps.getD q undef=Ny vs:=h1;simp[AQO,Rk,h1,e1]
       · cases h
     · cases h
   · cases h
 | t::ts, .cell q u::os,x,hT,h=>by
   simp only[dU] at h;split at h
   · rename_i j i hj hi
     split at h
     · rename_i lq e cs hb
       split at h
       · rename_i hsz
         split at h
         · rename_i y hy
           split at h
           · rename_i ys hys
             injection h with h;subst h;obtain⟨hjl,g,hν,hv⟩:=val_one (hj▸I.AQ (.tmp q));obtain⟨g',vs,h1,h2,h3,h4,h5⟩:=I.cells hb;rw[hν] at h1;injection h1 with h1;injection h1 with h1;injection h1 with h1;subst h1;obtain⟨f,d,hf,hd,hs,_,_,ha,_⟩:=BO hΘ hi;have hr:=N4 (P:=P) (w:=w) (ad:=⟨g,0,none⟩) (vs:=vs) hf hd hs ha (by rw[<-h4.len,hsz]) (λz hz=>by rw[Hf,Ik h3];simp);obtain⟨us,e1,e2⟩:=Ul hΘ I hU (λo ho=>hT o (ANG _ ho)) hys;have hT0:=hT _ ANH;simp only[ACO,hj,hb] at hT0;refine⟨Ny vs::us, ?_,⟨vs,rfl,nA I hU hT0 hy h4⟩,e2⟩;have hv:a.tmps.getD q undef= .pointer (some ⟨g,0,none⟩):=hv;have hr':(loadVar u ⟨g,0,none⟩).run P w= .ok (Ny vs) w:=by
              have:=hr;unfold Instr.loadAt Instr.sureAddr at this;simpa using this
             simp[AQO,Rk,hv,e1,asAddr,hr']
           · cases h
         · cases h
       · cases h
     · cases h
   · cases h
 | [],_::_,x,_,h=>by simp[dU] at h
 | _::_,[],x,_,h=>by simp[dU] at h
theorem P9 {fn:Func} {us:List Value} (h:(fn.results.toList.mapM (Rk a.tmps)).run P w= .ok us w):(results fn a.tmps).run P w= .ok (mkR us) w:=by
 have e:results fn a.tmps=(do
  let vs <-fn.results.mapM (Rk a.tmps)
  pure (if h:vs.size=1 then vs[0] else .tuple vs)):=by
  unfold results
  congr 1
 rw[e,Array.mapM_eq_mapM_toList];simp only[bind_map_left,Sem.run_bind,h,Result.andThen_ok,Sem.run_pure]
 congr 1
 match us with
 | []=>rfl
 | [u]=>rfl
 | u::v::l=>rfl
theorem ADh {g:FuncId} {fn:Func} {c:Code} {s:AT} {k k1 mm:Nat} {Bt:Nat->List Nat} {C:Bu (TT s.rs)} (hm:P.follows .mixedOrders=true) (hΘ:Θ.ok P=true) (hS:FP P S k) (hf:P.funcs[g]? =some fn) (hb:fn.body=some c) (hc:IQ Bt c=true) (hn:s.ps.length<=fn.ntmps)
 (hl:obs Θ S Bt C c 0 (K0 Θ s.rs fn.results.toList) True) (hd : ∀x r,s.f k1 x=some r->(den Θ S Bt C c 0 (K0 Θ s.rs fn.results.toList) k (IP fn.ntmps s.ps x) (List.replicate mm .gone)).run=some r):ig P g s k1:=by
 intro x r hr U w vs hU zW;have nB : ∀j,¬lv (List.replicate mm AB.gone) j:=λj ⟨b,h1,h2⟩=>by
  rw[AOX] at h1;split at h1
  · injection h1 with h1;subst h1;simp[EI] at h2
  · cases h1
 have hun : ∀q,Un U (λ_=>undef) (lv (List.replicate mm AB.gone)) q->U q:=λq hq=>hq.elim id λ⟨j,hj,_⟩=>absurd hj (nB j)
 have zX:SV (Un U (λ_=>undef) (lv (List.replicate mm AB.gone))) w s.ps x vs:=by
  have key : ∀ {ps:List Ty} {x:TT ps} {vs:List Value},SV U w ps x vs->SV (Un U (λ_=>undef) (lv (List.replicate mm AB.gone))) w ps x vs:=by
   intro ps;induction ps with
   | nil=>intro x vs h;exact h
   | cons t ts ih =>
     intro x vs h;cases vs with
     | nil=>exact h.elim
     | cons v vs =>
       obtain⟨⟨cs,h1,h2⟩,h3⟩:=h;exact⟨⟨cs,h1,h2.move ⟨ANS _,λ_ _ _=>rfl,λq _ z=>hun q z⟩⟩,ih h3⟩
  exact key zW
 obtain⟨hlen,hrel⟩:=Z7 zX;refine calls_of_wp hf hb ?_;refine Jq hm hΘ (w0:= {toWorld:=w,io:= [],fx:= []}) hU (λp hp=>by simp at hp) c k 0 _ _ _ hS hc hl ?_ k _ _ (ANS _) (hd x r hr) (λ_=>undef) _ w ?_
 · intro k' e tm hp hk' hK ν a w' I
   have fin:(ofO (dU Θ tm hp s.rs fn.results.toList)).run=some r->a.defers= []/\ ∃v,(results fn a.tmps).run P w'= .ok v w'/\ ∃v',Ending.returned v= .returned v'/\nC U w' s.rs r v'/\Below w.heap.size w w':=by
    intro h;rw[uI] at h;obtain⟨us,e1,e2⟩:=Ul hΘ I (U:=U) (λk _ z=> .inl z) (λo _ j e t xs hj hb k hk hu=>by
     have h1:w.heap.size<=k:=I.Rc hb hk;have:=hU k hu;omega) h
    exact⟨I.defers,_,P9 e1,_,rfl,⟨us,rfl,e2⟩,⟨I.fr.os,I.fr.tape,I.fr.output,I.fr.size,λk hk=>I.fr.block k hk (by simp)⟩⟩
   cases e with
   | normal=>exact fin hK
   | ret=>exact fin hK
   | exit id=>exact(Tree.Gd hK).elim
 · refine⟨by simp[IP,Z6,hlen],λi y hy=> ?_,λj b h1 h2=>absurd ⟨b,h1,h2⟩ (nB j),λi j _ hi=>absurd hi (nB i),⟨rfl,rfl,rfl,ANS _,λ_ _ _=>rfl⟩,λp hp=>by simp at hp,rfl⟩
   unfold IP at hy;rw[AO8] at hy;split at hy
   · rename_i hi
     obtain⟨v,hv,hR⟩:=hrel i y hy;have:(vs.toArray++Array.replicate (fn.ntmps-vs.toArray.size) undef).getD i undef=v:=by
      have hlt:=(ANN.1 hv).1;rw[ANz,APw,if_pos (by simpa using hlt)];simp[hv]
     show Fa _ _ _ _ _ ((vs.toArray++Array.replicate (fn.ntmps-vs.toArray.size) undef).getD i undef);rw[this];exact hR
   · rw[AOX] at hy
     split at hy
     · injection hy with hy;subst hy;trivial
     · cases hy
end
def LeM {A R:Type} (m:A->R) (x:Option A) (y:Option R):Prop:= ∀a,x=some a->y=some (m a)
def DT (P:Program) (g:FuncId) (s:AT):Prop:=KT P g=true/\ ∀k,ig P g s k
def Tj (P:Program) (g:FuncId) (s:Dj):Prop:=KT P g=true/\ ∀k,IOk P g s k
def FNk (P:Program) (g:FuncId) (s:mQ):Prop:=KT P g=true/\ ∀k,NOk P g s k
def FPk (P:Program) (g:FuncId) (s:Zi):Prop:=KT P g=true/\ ∀k,POk P g s k
def look:List (FuncId × FE)->FuncId->Option FE
 | [],_=>none
 | (u,s)::l,g=>if g=u then some s else look l g
def rL (P:Program):List (FuncId × FE)->Prop
 | []=>True
 | (g, .pu s)::l=>DT P g s/\rL P l
 | (g, .io s _)::l=>Tj P g s/\rL P l
 | (g, .nw s)::l=>FNk P g s/\rL P l
 | (g, .np s)::l=>FPk P g s/\rL P l
def AO:List (Nat × List Nat)->Nat->List Nat
 | [],_=> []
 | (u,b)::l,i=>if i=u then b else AO l i
def Ad {A R:Type} (m:A->R) (x:Option A) (y:Tree R):Prop:=LeM m x y.run
section
variable {A B C R:Type} {m:A->R}
theorem Ad.call {x:Option B} {q:B->C} {y:Option C} {F:B->Option A} {G:C->Tree R} (hy:x.map q=y) (h : ∀t,x=some t->Ad m (F t) (G (q t))):Ad m (x.bind F) (.dR y G):=by
 subst hy;intro a ha;cases hx:x with
 | none=>rw[hx] at ha;cases ha
 | some t=>rw[hx] at ha;exact h t hx a ha
theorem Ad.again {x:Option B} {t:B} {q:B->C} {y:Option C} {X:Option A} {G:C->Tree R} (hx:x=some t) (hy:x.map q=y) (h:Ad m X (G (q t))):Ad m X (.dR y G):=by
 intro a ha;subst hy hx;exact h a ha
theorem Ad.ite {c:Prop} [Decidable c] {X Y:Option A} {Z:Tree R} (h1:c->Ad m X Z) (h2 : ¬c->Ad m Y Z):Ad m (if c then X else Y) Z:=by
 by_cases h:c
 · rw[if_pos h];exact h1 h
 · rw[if_neg h];exact h2 h
theorem Ad.AJP {c:Prop} [d:Decidable c] {X:Option A} {Y Z:Tree R} (h:c) (k:Ad m X Y):Ad m X (.J2 c Y Z):=λa ha=>by
 show(if c then Y.run else Z.run)=_;rw[if_pos h];exact k a ha
theorem Ad.AJQ {c:Prop} [d:Decidable c] {X:Option A} {Y Z:Tree R} (h : ¬c) (k:Ad m X Z):Ad m X (.J2 c Y Z):=λa ha=>by
 show(if c then Y.run else Z.run)=_;rw[if_neg h];exact k a ha
theorem Ad.now {a:A} {r:R} (h:r=m a):Ad m (some a) (.done r):=λb hb=>by injection hb with hb;subst hb;exact congrArg some h
theorem Ad.none {y:Tree R} :Ad m Option.none y:=λb hb=>by cases hb
theorem Ad.tail {x:Option A} {y:Option R} (h:x.map m=y):Ad m x (.dR y .done):=λa ha=>by
 subst h ha;rfl
end
section
variable {R A:Type} {m:A->R} {N:CN} {sl:List Slot} {F:Nat->TS sl->Option A} {D:Nat->List AV->List AB->Tree R}
theorem A8 (h0 : ∀x,F 0 x=none) (h : ∀k x,Ad m (F (k+1) x) (fL (m6 N sl x) λtm=>fH (Th N sl x) λhp=>D k tm hp)) : ∀k x r,(F k x).map m=some r-> ∃k',k'<k/\(D k' (m6 N sl x) (Th N sl x)).run=some r
 | 0,x,r,hr=>by rw[h0 x] at hr;cases hr
 | k+1,x,r,hr=>by
   obtain⟨a,ha,rfl⟩:=AOC.1 hr;have:=h k x a ha;rw[ef,eg] at this;exact⟨k,Nat.lt_succ_self k,this⟩
theorem B4 (h0 : ∀x,F 0 x=none) (h : ∀k x,Ad m (F (k+1) x) (fL (m6 N sl x) λtm=>fH (Th N sl x) λhp=>D k tm hp)) : ∀k x r,(F k x).map m=some r-> ∃k',k'<=k/\(D k' (m6 N sl x) (Th N sl x)).run=some r:=λk x r hr=>by
 obtain⟨k',h1,h2⟩:=A8 h0 h k x r hr;exact⟨k',Nat.le_of_lt h1,h2⟩
end
def Ag {R:Type} :Bu R:=⟨⟨0,0,[]⟩,λ_=>none,λ_=>none,λ_=>none⟩
def ACP (P:Program) (k0:Nat):List (FuncId × FE)->Prop
 | []=>True
 | p::l=>(KT P p.1=true/\ ∀k,k<=k0->AGJ P p.1 p.2 k)/\ACP P k0 l
theorem rL.upTo {P:Program} {k0:Nat} : ∀ {l:List (FuncId × FE)},rL P l->ACP P k0 l
 | [],_=>trivial
 | (_, .pu _)::l,h=>⟨⟨h.1.1,λk _=>h.1.2 k⟩,rL.upTo (l:=l) h.2⟩
 | (_, .io _ _)::l,h=>⟨⟨h.1.1,λk _=>h.1.2 k⟩,rL.upTo (l:=l) h.2⟩
 | (_, .nw _)::l,h=>⟨⟨h.1.1,λk _=>h.1.2 k⟩,rL.upTo (l:=l) h.2⟩
 | (_, .np _)::l,h=>⟨⟨h.1.1,λk _=>h.1.2 k⟩,rL.upTo (l:=l) h.2⟩
theorem QA {P:Program} {k0:Nat} : ∀ {l:List (FuncId × FE)},ACP P k0 l->FP P (look l) k0
 | [],_,g,s,hs=>by simp[look] at hs
 | (u,t)::l,h,g,s,hs=>by
   unfold look at hs;split at hs
   · rename_i e;injection hs with hs;subst hs;subst e;exact h.1
   · exact QA (l:=l) h.2 g s hs
theorem rM {P:Program} {Θ:JE} {l:List (FuncId × FE)} {g:FuncId} {fn:Func} {c:Code} {s:AT} {Bt:Nat->List Nat} {C:Bu (TT s.rs)} {A:Type} {m:A->TT s.rs} {k k1:Nat} {F:TT s.ps->Option A} (hm:P.follows .mixedOrders=true) (hΘ:Θ.ok P=true) (ho:ACP P k l) (hf:P.funcs[g]? =some fn) (hb:fn.body=some c) (hc:IQ Bt c=true) (hn:s.ps.length<=fn.ntmps)
 (hF : ∀x,s.f k1 x=(F x).map m) (hl:obs Θ (look l) Bt C c 0 (K0 Θ s.rs fn.results.toList) True) (hd : ∀x,Ad m (F x) (fL (IP fn.ntmps s.ps x) λtm=>fH (List.replicate fn.ntmps .gone) λhp=>den Θ (look l) Bt C c 0 (K0 Θ s.rs fn.results.toList) k tm hp)):ig P g s k1 :=
 ADh hm hΘ (QA ho) hf hb hc hn hl λx r hr=>by
  rw[hF] at hr;obtain⟨a,ha,rfl⟩:=AOC.1 hr;have:=hd x a ha;rw[ef,eg] at this;exact this
theorem Ac {P:Program} {Θ:JE} {l:List (FuncId × FE)} {g:FuncId} {fn:Func} {c:Code} {s:AT} {Bt:Nat->List Nat} {C:Bu (TT s.rs)} {A:Type} {m:A->TT s.rs} {F:Nat->TT s.ps->Option A} (hm:P.follows .mixedOrders=true) (hΘ:Θ.ok P=true) (ho:rL P l) (hf:P.funcs[g]? =some fn) (hb:fn.body=some c) (hc:IQ Bt c=true) (hn:s.ps.length<=fn.ntmps) (hg:KT P g=true)
 (hF : ∀k x,s.f k x=(F k x).map m) (hl:obs Θ (look l) Bt C c 0 (K0 Θ s.rs fn.results.toList) True) (hd : ∀k x,Ad m (F k x) (fL (IP fn.ntmps s.ps x) λtm=>fH (List.replicate fn.ntmps .gone) λhp=>den Θ (look l) Bt C c 0 (K0 Θ s.rs fn.results.toList) k tm hp)):DT P g s :=
 ⟨hg,λk=>rM (k1:=k) hm hΘ ho.upTo hf hb hc hn (hF k) hl (hd k)⟩
theorem zY {mm:Nat} {P:Program} {Θ:JE} {l:List (FuncId × FE)} {g:FuncId} {fn:Func} {c:Code} {s:AT} {Bt:Nat->List Nat} {C:Bu (TT s.rs)} {A:Type} {m:A->TT s.rs} {F:Nat->TT s.ps->Option A} (hm:P.follows .mixedOrders=true) (hΘ:Θ.ok P=true) (ho:rL P l) (hf:P.funcs[g]? =some fn) (hb:fn.body=some c) (hc:IQ Bt c=true) (hn:s.ps.length<=fn.ntmps) (hg:KT P g=true)
 (hF : ∀k x,s.f k x=(F k x).map m) (hl:obs Θ (look l) Bt C c 0 (K0 Θ s.rs fn.results.toList) True) (hd : ∀k x,Ad m (F k x) (fL (IP fn.ntmps s.ps x) λtm=>fH (List.replicate mm .gone) λhp=>den Θ (look l) Bt C c 0 (K0 Θ s.rs fn.results.toList) k tm hp)):DT P g s :=
 ⟨hg,λk=>ADh (mm:=mm) (k:=k) (k1:=k) hm hΘ (QA ho.upTo) hf hb hc hn hl λx r hr=>by
   rw[hF] at hr;obtain⟨a,ha,rfl⟩:=AOC.1 hr;have:=hd k x a ha;rw[ef,eg] at this;exact this⟩
attribute [irreducible] Ad
end
section
def Il:List FK->Nat
 | []=>0
 | .row _ _ _::l=>Il l+1
 | _::l=>Il l
def JS:List PK->Nat
 | []=>0
 | .ty _::l=>JS l
 | .st _ fs::l=>1+Il fs+JS l
 | .KR _ _::l=>1+JS l
def lq (keep:Bool):Lq:=match keep with
 | true=> .kept
 | false=> .FZ
def wP:(ps:List PK)->PT ps->Nat->List AV
 | [],_,_=> []
 | .ty t::l,(x,y),b=> .val (WQ t x)::wP l y b
 | .st _ fs::l,(_,y),b=> .val [.ptr b 0]::wP l y (b+(1+Il fs))
 | .KR _ _::l,(_,y),b=> .val [.own b]::wP l y (b+1)
def stC:(fs:List FK)->FT fs->Nat->List AC
 | [],_,_=> []
 | .ty t::l,(x,y),b=>WQ t x++stC l y b
 | .row _ _ _::l,(_,y),b=> .own b::stC l y (b+1)
def stE:(fs:List FK)->FT fs->Nat->List (Nat × AB)
 | [],_,_=> []
 | .ty _::l,(_,y),b=>stE l y b
 | .row k e t::l,(x,y),b=>(b, .row (lq k) e t x)::stE l y (b+1)
def rN:(ps:List PK)->PT ps->Nat->List (Nat × AB)
 | [],_,_=> []
 | .ty _::l,(_,y),b=>rN l y b
 | .st e fs::l,(x,y),b=>(b, .cells .kept e (stC fs x (b+1)))::(stE fs x (b+1)++rN l y (b+(1+Il fs)))
 | .KR e t::l,(x,y),b=>(b, .row .kept e t x)::rN l y (b+1)
def tmI (n:Nat) (ps:List PK) (x:PT ps):List AV:=wP ps x n++List.replicate (n-ps.length) .FA
def hpI (n m:Nat) (ps:List PK) (x:PT ps):List AB:=DB (rN ps x n) (List.replicate m .gone)
def fxF:List FK->Nat->List Nat
 | [],_=> []
 | .ty _::l,b=>fxF l b
 | .row k _ _::l,b=>match k with
   | true=>b::fxF l (b+1)
   | false=>fxF l (b+1)
def fxP:List PK->Nat->List Nat
 | [],_=> []
 | .ty _::l,b=>fxP l b
 | .st _ fs::l,b=>b::(fxF fs (b+1)++fxP l (b+(1+Il fs)))
 | .KR _ _::l,b=>b::fxP l (b+1)
def Tk (hp:List AB):(fs:List FK)->List AC->Nat->Option (FT fs × List Nat)
 | [],[],_=>some ((),[])
 | .ty t::l,cs,b=>match Ee hp t cs with
   | some (x,cs')=>match Tk hp l cs' b with
     | some (y,ids)=>some ((x,y),ids)
     | none=>none
   | none=>none
 | .row true e t::l, .own j::cs,b=>if j=b then(match hp[j]? with
   | some (.row .kept e' t' xs)=>if h:e'=e/\t'=t then(match Tk hp l cs (b+1) with
     | some (y,ids)=>h.2▸some ((xs,y),j::ids)
     | none=>none) else none
   | _=>none) else none
 | .row false e t::l, .Bo::cs,b=>match Tk hp l cs (b+1) with
   | some (y,ids)=>some (([],y),ids)
   | none=>none
 | .row false e t::l, .own j::cs,b=>match hp[j]? with
   | some (.row q e' t' xs)=>if h:e'=e/\t'=t then(if q= .kept then none else match Tk hp l cs (b+1) with
     | some (y,ids)=>h.2▸some ((xs,y),j::ids)
     | none=>none) else none
   | _=>none
 | _,_,_=>none
def endP (hp:List AB):(ps:List PK)->Nat->Option (ET ps × List Nat)
 | [],_=>some ((),[])
 | .ty _::l,b=>endP hp l b
 | .st e fs::l,b=>match hp[b]? with
   | some (.cells .kept e' cs)=>if e'=e then(match Tk hp fs cs (b+1) with
     | some (x,ids)=>match endP hp l (b+(1+Il fs)) with
       | some (y,ids')=>some ((x,y),b::(ids++ids'))
       | none=>none
     | none=>none) else none
   | _=>none
 | .KR e t::l,b=>match hp[b]? with
   | some (.row .kept e' t' xs)=>if h:e'=e/\t'=t then(match endP hp l (b+1) with
     | some (y,ids)=>h.2▸some ((xs,y),b::ids)
     | none=>none) else none
   | _=>none
def nD:List FK->List AC->List AC
 | .ty t::l,cs=>cs.take t.size++nD l (cs.drop t.size)
 | .row _ _ _::l,_::cs=>nD l cs
 | _,_=> []
def nE (hp:List AB):List PK->Nat->List AC
 | [],_=> []
 | .ty _::l,b=>nE hp l b
 | .st _ fs::l,b=>(match hp[b]? with
   | some (.cells _ _ cs)=>nD fs cs
   | _=> [])++nE hp l (b+(1+Il fs))
 | .KR _ _::l,b=>nE hp l (b+1)
def uR:List AC->List Nat
 | []=> []
 | .own j::cs=>j::uR cs
 | _::cs=>uR cs
def zZ (hp:List AB) (tm:List AV) (ps:List PK) (n:Nat) (vs:List ResultVar) (ids:List Nat):Bool :=
 Zn ids&&((uR (vs.flatMap (ACO tm hp)++nE hp ps n)).all λj=> !ids.contains j)
def AEr (Θ:JE) (rs:List Ty) (vs:List ResultVar) (ps:List PK) (n:Nat) (tm:List AV) (hp:List AB):Tree (TT rs × ET ps):=match dU Θ tm hp rs vs with
 | some x=>match endP hp ps n with
   | some (y,ids)=>if zZ hp tm ps n vs ids=true then .done (x,y) else .non
   | none=> .non
 | none=> .non
def K0I (Θ:JE) (rs:List Ty) (vs:List ResultVar) (ps:List PK) (n:Nat):FO (TT rs × ET ps):=λk e tm hp=>match e with
 | .exit _=> .non
 | _=>AEr Θ rs vs ps n tm hp
section
variable {P:Program} {Θ:JE} {S:FuncId->Option FE} {U0:Nat->Prop} {ν:Nat->Value} {tm:List AV} {hp:List AB} {w0:St} {w w':World} {a:Act}
theorem WU : ∀ {cs:List AC} {j:Nat},AC.own j∈cs->j∈uR cs
 | c::cs,j,h=>by
   rcases ANM.1 h with rfl | h
   · exact ANH
   · have:=WU h
     cases c<;>first | exact ANG _ this | exact this
def dD:List FK->List Value->Nat->List (Nat × Value)
 | .ty t::l,us,b=>dD l (us.drop t.size) b
 | .row _ _ _::l,u::us,b=>(b,u)::dD l us (b+1)
 | _,_,_=> []
def qW (w:World):List PK->List Value->Nat->List (Nat × Value)
 | .ty _::l,_::vs,b=>qW w l vs b
 | .st _ fs::l,v::vs,b=>(b,v)::(dD fs (QB w v) (b+1)++qW w l vs (b+(1+Il fs)))
 | .KR _ _::l,v::vs,b=>(b,v)::qW w l vs (b+1)
 | _,_,_=> []
theorem ij : ∀(fs:List FK) (b:Nat),dD fs [] b= []
 | [],_=>rfl
 | .ty t::l,b=>by simp only[dD,AQk];exact ij l b
 | .row _ _ _::l,b=>rfl
theorem QC (b n:Nat):b::(List.range n).map (b+1+ ·)=(List.range (1+n)).map (b+ ·):=by
 rw[APv 1 n,AQc,ANx,AQo]
 congr 1
 exact AOE λi _=>by simp only[Function.comp];omega
theorem AEs {U:Nat->Prop} : ∀ {fs:List FK} {x:FT fs} {us:List Value} {bl:List Nat} (b:Nat),iq U w fs x us bl ->
 (stE fs x b).map (·.1)=(List.range (Il fs)).map (b+ ·)/\(dD fs us b).map (·.1)=(List.range (Il fs)).map (b+ ·)/\bl=(dD fs us b).flatMap (λp=>(C4 p.2).toList)/\(∀p∈stE fs x b,EI p.2=false) /\
 (∀i∈fxF fs b,∃b',(i,b')∈stE fs x b/\P0 b'=true)/\(∀p∈dD fs us b,ref p.2=p.2) /\
 ∀(s:St) (ν:Nat->Value) (L:Nat->Prop),(∀p∈dD fs us b,ν p.1=p.2/\L p.1)->Move U w w (Un U ν L)->(∀k∈bl,k∈s.io)->CD (CW U ν L w) (stC fs x b) us/\ ∀p∈stE fs x b,SN U ν L s w p.1 p.2
 | [],x,us,bl,b,h=>by
   obtain⟨rfl,rfl⟩:=h;exact⟨rfl,rfl,rfl,λp hp=>by simp[stE] at hp,λi hi=>by simp[fxF] at hi,λp hp=>by simp[dD] at hp,λs ν L _ _ _=>⟨trivial,λp hp=>by simp[stE] at hp⟩⟩
 | .ty t::l,x,us,bl,b,h=>by
   obtain⟨v1,v2,rfl,q1,q2⟩:=h;have hl:v1.length=t.size:=(by rw[(kd t).Dr q1.K,Ey]);have e2:(v1++v2).drop t.size=v2:=(by rw[<-hl,AQM]);have e3:dD (.ty t::l) (v1++v2) b=dD l v2 b:=(by simp only[dD,e2]);obtain⟨z1,z2,z3,z4,z5,z6,z7⟩:=AEs b q2;rw[e3];refine⟨z1,z2,z3,z4,z5,z6,λs ν L h1 h2 h3=> ?_⟩;obtain⟨y1,y2⟩:=z7 s ν L h1 h2 h3;exact⟨(Gj t x.1 (q1.move h2)).app y1,y2⟩
 | .row kp e t::l,x,[],bl,b,h=>h.elim
 | .row kp e t::l,x,u::us,bl,b,h=>by
   obtain⟨inner,b2,f1,f2,rfl,f3⟩:=h;obtain⟨z1,z2,z3,z4,z5,z6,z7⟩:=AEs (b+1) f3;have hr:(List.range (Il (.row kp e t::l))).map (b+ ·)=b::(List.range (Il l)).map (b+1+ ·):=by
    rw[QC,APv];rfl
   rw[hr];refine⟨by simp only[stE,ANx,z1],by simp only[dD,ANx,z2],by simp only[dD,AOg,<-z3],λp hp=> ?_,λi hi=> ?_,λp hp=> ?_,λs ν L h1 h2 h3=> ?_⟩
   · rcases ANM.1 hp with rfl | hp
     · rfl
     · exact z4 p hp
   · cases kp with
     | true =>
       rcases ANM.1 (show i∈b::fxF l (b+1) from hi) with rfl | hi
       · exact⟨_,ANH,rfl⟩
       · obtain⟨b',y1,y2⟩:=z5 i hi
         exact⟨b',ANG _ y1,y2⟩
     | false =>
       obtain⟨b',y1,y2⟩:=z5 i hi;exact⟨b',ANG _ y1,y2⟩
   · rcases ANM.1 hp with rfl | hp
     · exact(G7 f1).1
     · exact z6 p hp
   · have h0:=h1 (b,u) ANH
     obtain⟨y1,y2⟩:=z7 s ν L (λp hp=>h1 p (ANG _ hp)) h2 (λk hk=>h3 k (ANK _ hk));have hm : ∀k,C4 u=some k->KQ s (lq kp) k:=λk hk=>by
      have:k∈s.io:=h3 k (ANP _ (by rw[hk];simp));cases kp<;>exact .inr this
     refine⟨⟨⟨h0.2,by rw[h0.1];exact(G7 f1).1.symm⟩,y1⟩,λp hp=> ?_⟩;rcases ANM.1 hp with rfl | hp
     · refine⟨⟨inner, ?_,f2.Gh λ_ _ z=>z.move h2⟩,λk hk=>hm k ((congrArg C4 (show _=ν b from h0.1.symm)).trans hk)⟩
       rw[h0.1];exact Z8 f1 λk hk=>UZ (hm k hk)
     · exact y2 p hp
theorem ACQ {U:Nat->Prop} : ∀ {ps:List PK} {x:PT ps} {vs:List Value} {bl:List Nat} (b:Nat),rO U w ps x vs bl ->
 (rN ps x b).map (·.1)=(List.range (JS ps)).map (b+ ·)/\(qW w ps vs b).map (·.1)=(List.range (JS ps)).map (b+ ·)/\bl=(qW w ps vs b).flatMap (λp=>(C4 p.2).toList)/\(∀p∈rN ps x b,EI p.2=false) /\
 (∀i∈fxP ps b,∃b',(i,b')∈rN ps x b/\P0 b'=true)/\vs.length=ps.length /\
 ∀(s:St) (ν:Nat->Value) (L:Nat->Prop),(∀p∈qW w ps vs b,ν p.1=p.2/\L p.1)->Move U w w (Un U ν L)->(∀k∈bl,k∈s.io)->(∀(i:Nat) (y:AV),(wP ps x b)[i]? =some y-> ∃v:Value,vs[i]? =some v/\Fa U ν L w y v)/\ ∀p∈rN ps x b,SN U ν L s w p.1 p.2
 | [],x,vs,bl,b,h=>by
   obtain⟨rfl,rfl⟩:=h;exact⟨rfl,rfl,rfl,λp hp=>by simp[rN] at hp,λi hi=>by simp[fxP] at hi,rfl,λs ν L _ _ _=>⟨λi y hy=>by simp[wP] at hy,λp hp=>by simp[rN] at hp⟩⟩
 | .ty t::l,x,[],bl,b,h=>h.elim
 | .st e fs::l,x,[],bl,b,h=>h.elim
 | .KR e t::l,x,[],bl,b,h=>h.elim
 | .ty t::l,x,v::vs,bl,b,h=>by
   obtain⟨⟨cs,q1,q2⟩,q3⟩:=h;obtain⟨z1,z2,z3,z4,z5,z6,z7⟩:=ACQ b q3;refine⟨z1,z2,z3,z4,z5,congrArg (· +1) z6,λs ν L h1 h2 h3=> ?_⟩;obtain⟨y1,y2⟩:=z7 s ν L h1 h2 h3;refine⟨λi y hy=> ?_,y2⟩;cases i with
   | zero =>
     simp only[wP,AOf] at hy;injection hy with hy;subst hy;exact⟨v,rfl,cs,q1,Gj t x.1 (q2.move h2)⟩
   | succ i =>
     simp only[wP,AOW] at hy;exact y1 i y hy
 | .st e fs::l,x,v::vs,bl,b,h=>by
   obtain⟨g,us,b1,b2,rfl,hg,f1,rfl,f2⟩:=h;have hus:QB w (.pointer (some ⟨g,0,none⟩))=us:=(by unfold QB;simp[hg]);obtain⟨y1,y2,y3,y4,y5,y6,y7⟩:=AEs (b+1) f1;obtain⟨z1,z2,z3,z4,z5,z6,z7⟩:=ACQ (b+(1+Il fs)) f2;have hr:(List.range (JS (.st e fs::l))).map (b+ ·)=b::((List.range (Il fs)).map (b+1+ ·)++(List.range (JS l)).map (b+(1+Il fs)+ ·)):=by
    rw[<-APb,QC];exact fI b _ _
   have hnv:qW w (.st e fs::l) (.pointer (some ⟨g,0,none⟩)::vs) b=(b, .pointer (some ⟨g,0,none⟩))::(dD fs us (b+1)++qW w l vs (b+(1+Il fs))):=(by simp only[qW,hus]);rw[hr,hnv];refine⟨by simp only[rN,ANx,AOe,y1,z1],by simp only[ANx,AOe,y2,z2], ?_,λp hp=> ?_,λi hi=> ?_,congrArg (· +1) z6,λs ν L h1 h2 h3=> ?_⟩
   · rw[AOg,AOz,<-y3,<-z3]
     rfl
   · rcases ANM.1 hp with rfl | hp
     · rfl
     · exact(ANp.1 hp).elim (y4 p) (z4 p)
   · rcases ANM.1 hi with rfl | hi
     · exact⟨_,ANH,rfl⟩
     · rcases ANp.1 hi with hi | hi
       · obtain⟨b',q1,q2⟩:=y5 i hi
         exact⟨b',ANG _ (ANP _ q1),q2⟩
       · obtain⟨b',q1,q2⟩:=z5 i hi
         exact⟨b',ANG _ (ANK _ q1),q2⟩
   · have h0:=h1 (b, .pointer (some ⟨g,0,none⟩)) ANH
     obtain⟨r1,r2⟩:=y7 s ν L (λp hp=>h1 p (ANG _ (ANP _ hp))) h2 (λk hk=>h3 k (ANG _ (ANP _ hk)));obtain⟨s1,s2⟩:=z7 s ν L (λp hp=>h1 p (ANG _ (ANK _ hp))) h2 (λk hk=>h3 k (ANG _ (ANK _ hk)));refine⟨λi y hy=> ?_,λp hp=> ?_⟩
     · cases i with
       | zero =>
         simp only[wP,AOf] at hy;injection hy with hy;subst hy;exact⟨_,rfl,D3 (c:= .ptr b 0) ⟨h0.2,g,h0.1,rfl⟩⟩
       | succ i =>
         simp only[wP,AOW] at hy;exact s1 i y hy
     · rcases ANM.1 hp with rfl | hp
       · exact⟨g,us,h0.1, .inr (h3 g ANH),hg,r1⟩
       · exact(ANp.1 hp).elim (r2 p) (s2 p)
 | .KR e t::l,x,v::vs,bl,b,h=>by
   obtain⟨inner,b2,f1,f2,rfl,f3⟩:=h;obtain⟨z1,z2,z3,z4,z5,z6,z7⟩:=ACQ (b+1) f3;have hr:(List.range (JS (.KR e t::l))).map (b+ ·)=b::(List.range (JS l)).map (b+1+ ·):=(QC b _).symm;rw[hr];refine⟨by simp only[rN,ANx,z1],by simp only[qW,ANx,z2],by simp only[qW,AOg,<-z3],λp hp=> ?_,λi hi=> ?_,congrArg (· +1) z6,λs ν L h1 h2 h3=> ?_⟩
   · rcases ANM.1 hp with rfl | hp
     · rfl
     · exact z4 p hp
   · rcases ANM.1 hi with rfl | hi
     · exact⟨_,ANH,rfl⟩
     · obtain⟨b',q1,q2⟩:=z5 i hi
       exact⟨b',ANG _ q1,q2⟩
   · have h0:=h1 (b,v) ANH
     obtain⟨s1,s2⟩:=z7 s ν L (λp hp=>h1 p (ANG _ hp)) h2 (λk hk=>h3 k (ANK _ hk));have hm : ∀k,C4 v=some k->KQ s .kept k:=λk hk=> .inr (h3 k (ANP _ (by rw[hk];simp)))
     refine⟨λi y hy=> ?_,λp hp=> ?_⟩
     · cases i with
       | zero =>
         simp only[wP,AOf] at hy;injection hy with hy;subst hy;exact⟨_,rfl,D3 (c:= .own b) ⟨h0.2,by rw[h0.1];exact(G7 f1).1.symm⟩⟩
       | succ i =>
         simp only[wP,AOW] at hy;exact s1 i y hy
     · rcases ANM.1 hp with rfl | hp
       · refine⟨⟨inner, ?_,f2.Gh λ_ _ z=>z.move h2⟩,λk hk=>hm k ((congrArg C4 (show _=ν b from h0.1.symm)).trans hk)⟩
         rw[h0.1];exact Z8 f1 λk hk=>UZ (hm k hk)
       · exact s2 p hp
theorem uS {U:Nat->Prop} {cs cs':List AC} (h:Cc U ν hp (cs++cs')):Cc U ν hp cs:=λj e t xs hj=>h j e t xs (ANP _ hj)
theorem nF {U:Nat->Prop} {cs cs':List AC} (h:Cc U ν hp (cs++cs')):Cc U ν hp cs':=λj e t xs hj=>h j e t xs (ANK _ hj)
theorem Um (I:Inv U0 ν tm hp w0 a w) {U:Nat->Prop} (hU : ∀k,k<w.heap.size->U k->Un U0 ν (lv hp) k) : ∀ {fs:List FK} {cs:List AC} {y:FT fs} {ids:List Nat} {us us':List Value} (b:Nat),Tk hp fs cs b=some (y,ids)->CD (CW U0 ν (lv hp) w) cs us'->Cc U ν hp (nD fs cs)->(∀p∈dD fs us b,p.1∈fxF fs b->ν p.1=p.2)->iq U w fs y us' (iw ν ids)/\(∀j∈ids,lv hp j)/\PM fs us us'
 | [],[],y,ids,us,us',b,h,hr,hm,hk=>by
   simp only[Tk] at h;injection h with h;injection h with _ h;subst h;have:us'= []:=by
    cases us' with
    | nil=>rfl
    | cons _ _=>exact hr.elim
   exact⟨⟨this,rfl⟩,λj hj=>by simp at hj,trivial⟩
 | [],_::_,y,ids,us,us',b,h,hr,hm,hk=>by simp[Tk] at h
 | .ty t::l,cs,y,ids,us,us',b,h,hr,hm,hk=>by
   simp only[Tk] at h;split at h
   · rename_i x cs' hx
     split at h
     · rename_i y' ids' hy
       injection h with h;injection h with h1 h2;subst h1 h2;obtain⟨rfl,_⟩:=Jp hx;obtain⟨q1,q2⟩:=Z2 I hU (uS hm) hx hr;have e3:dD (.ty t::l) us b=dD l (us.drop t.size) b:=(by simp only[dD]);rw[e3] at hk;obtain⟨z1,z2,z3⟩:=Um I hU (us:=us.drop t.size) b hy q2 (nF hm) hk;exact⟨⟨_,_,(AOm t.size us').symm,q1,z1⟩,z2,z3⟩
     · cases h
   · cases h
 | .row kp e t::l,[],y,ids,us,us',b,h,hr,hm,hk=>by cases kp<;>simp[Tk] at h
 | .row kp e t::l,c::cs,y,ids,us,[],b,h,hr,hm,hk=>hr.elim
 | .row true e t::l,c::cs,y,ids,us,u::us',b,h,hr,hm,hk=>by
   cases c with
   | own j =>
     simp only[Tk] at h;split at h
     · rename_i hj
       subst hj;split at h
       · rename_i e' t' xs hb
         split at h
         · rename_i q
           obtain⟨rfl,rfl⟩:=q;split at h
           · rename_i y' ids' hy
             injection h with h;injection h with h1 h2;subst h1 h2;obtain⟨⟨inner,y1,y2⟩,y3⟩:=I.mem j _ hb rfl;have hu:u=ν j:=hr.1.2.trans (G7 y1).1;obtain⟨z1,z2,z3⟩:=Um I hU (us:=us.drop 1) (j+1) hy hr.2 hm (λp hp Lg=>by
              cases us with
              | nil=>rw[AQk,ij] at hp;simp at hp
              | cons u0 us=>exact hk p (ANG _ hp) (ANG _ Lg))
             refine⟨⟨inner,_,by rw[hu];exact QD y1,y2.Gh λ_ _ z=>z.move ⟨ANS _,λ_ _ _=>rfl,λk hk hu=>hU k hk hu⟩,by rw[hu];rfl,z1⟩,λi hi=> ?_, ?_⟩
             · rcases ANM.1 hi with rfl | hi
               · exact⟨_,hb,rfl⟩
               · exact z2 i hi
             · cases us with
               | nil=>trivial
               | cons u0 us=>exact⟨by rw[hu];exact hk (j,u0) ANH ANH,z3⟩
           · cases h
         · cases h
       · cases h
     · cases h
   | _=>simp[Tk] at h
 | .row false e t::l,c::cs,y,ids,us,u::us',b,h,hr,hm,hk=>by
   have hk' : ∀p∈dD l (us.drop 1) (b+1),p.1∈fxF l (b+1)->ν p.1=p.2:=λp hp Lg=>by
    cases us with
    | nil=>rw[AQk,ij] at hp;simp at hp
    | cons u0 us=>exact hk p (ANG _ hp) Lg
   have hkp:PM l (us.drop 1) us'->PM (.row false e t::l) us (u::us'):=λh=>by
    cases us with
    | nil=>trivial
    | cons u0 us=>exact h
   cases c with
   | Bo =>
     simp only[Tk] at h;split at h
     · rename_i y' ids' hy
       injection h with h;injection h with h1 h2;subst h1 h2;obtain⟨z1,z2,z3⟩:=Um I hU (us:=us.drop 1) (b+1) hy hr.2 hm hk';have hu:u= .slice none 0 0:=hr.1;subst hu;exact⟨⟨[],_,iE w _ _ _,Bn.none _ _,rfl,z1⟩,z2,hkp z3⟩
     · cases h
   | own j =>
     simp only[Tk] at h;split at h
     · rename_i lq' e' t' xs hb
       split at h
       · rename_i q
         obtain⟨rfl,rfl⟩:=q;split at h
         · cases h
         · split at h
           · rename_i y' ids' hy
             injection h with h;injection h with h1 h2;subst h1 h2;obtain⟨⟨inner,y1,y2⟩,y3⟩:=I.mem j _ hb rfl;have hu:u=ν j:=hr.1.2.trans (G7 y1).1;obtain⟨z1,z2,z3⟩:=Um I hU (us:=us.drop 1) (b+1) hy hr.2 hm hk';refine⟨⟨inner,_,by rw[hu];exact QD y1,y2.Gh λ_ _ z=>z.move ⟨ANS _,λ_ _ _=>rfl,λk hk hu=>hU k hk hu⟩,by rw[hu];rfl,z1⟩,λi hi=> ?_,hkp z3⟩;rcases ANM.1 hi with rfl | hi
             · exact⟨_,hb,rfl⟩
             · exact z2 i hi
           · cases h
       · cases h
     · cases h
   | _=>simp[Tk] at h
theorem Uo (I:Inv U0 ν tm hp w0 a w') {U V:Nat->Prop} (hU : ∀k,k<w'.heap.size->U k->Un U0 ν (lv hp) k) : ∀ {ps:List PK} {x:PT ps} {y:ET ps} {ids:List Nat} {vs:List Value} {bl:List Nat} (b:Nat),rO V w ps x vs bl->endP hp ps b=some (y,ids)->Cc U ν hp (nE hp ps b)->(∀p∈qW w ps vs b,p.1∈fxP ps b->ν p.1=p.2)->rP U w w' ps y vs (iw ν ids)/\ ∀j∈ids,lv hp j
 | [],x,y,ids,vs,bl,b,GZ,h,hm,hk=>by
   simp only[endP] at h;injection h with h;injection h with _ h;subst h;exact⟨⟨GZ.1,rfl⟩,λj hj=>by simp at hj⟩
 | .ty t::l,x,y,ids,[],bl,b,GZ,h,hm,hk=>GZ.elim
 | .st e fs::l,x,y,ids,[],bl,b,GZ,h,hm,hk=>GZ.elim
 | .KR e t::l,x,y,ids,[],bl,b,GZ,h,hm,hk=>GZ.elim
 | .ty t::l,x,y,ids,v::vs,bl,b,GZ,h,hm,hk=>Uo I hU (ps:=l) (vs:=vs) b GZ.2 h hm hk
 | .st e fs::l,x,y,ids,v::vs,bl,b,GZ,h,hm,hk=>by
   obtain⟨g,us,b1,b2,rfl,hg,f1,rfl,f2⟩:=GZ;have hus:QB w (.pointer (some ⟨g,0,none⟩))=us:=(by unfold QB;simp[hg]);have hnv:qW w (.st e fs::l) (.pointer (some ⟨g,0,none⟩)::vs) b=(b, .pointer (some ⟨g,0,none⟩))::(dD fs us (b+1)++qW w l vs (b+(1+Il fs))):=(by simp only[qW,hus]);rw[hnv] at hk;have h0:=hk (b, .pointer (some ⟨g,0,none⟩)) ANH ANH;simp only[endP] at h;split at h
   · rename_i e' cs hb
     split at h
     · rename_i he
       subst he;split at h
       · rename_i x1 AMo hx1
         split at h
         · rename_i y1 AGK hy1
           injection h with h;injection h with h1 h2;subst h1 h2;obtain⟨g',vs',c1,c2,c3,c4,c5⟩:=I.cells hb;have h0:ν b= .pointer (some ⟨g,0,none⟩):=h0;rw[h0] at c1;injection c1 with c1;injection c1 with c1;injection c1 with c1;subst c1;have hm1:Cc U ν hp (nD fs cs):=by
            have:=uS (cs:=_) (cs':=_) hm;rw[hb] at this;exact this
           obtain⟨z1,z2,z3⟩:=Um I hU (us:=us) (b+1) hx1 c4 hm1 (λp hp Lg=>hk p (ANG _ (ANP _ hp)) (ANG _ (ANP _ Lg)));obtain⟨q1,q2⟩:=Uo I hU (ps:=l) (vs:=vs) (b+(1+Il fs)) f2 hy1 (nF hm) (λp hp Lg=>hk p (ANG _ (ANK _ hp)) (ANG _ (ANK _ Lg)));refine⟨⟨g,us,vs',_,_,rfl,hg,c3,z1,z3, ?_,q1⟩,λi hi=> ?_⟩
           · unfold iw
             rw[AOg,AOz,h0];rfl
           · rcases ANM.1 hi with rfl | hi
             · exact⟨_,hb,rfl⟩
             · exact(ANp.1 hi).elim (z2 i) (q2 i)
         · cases h
       · cases h
     · cases h
   · cases h
 | .KR e t::l,x,y,ids,v::vs,bl,b,GZ,h,hm,hk=>by
   obtain⟨inner,b2,f1,f2,rfl,f3⟩:=GZ;have h0:ν b=v:=hk (b,v) ANH ANH;simp only[endP] at h;split at h
   · rename_i e' t' xs hb
     split at h
     · rename_i q
       obtain⟨rfl,rfl⟩:=q;split at h
       · rename_i y1 AGK hy1
         injection h with h;injection h with h1 h2;subst h1 h2;obtain⟨⟨inner',y1,y2⟩,y3⟩:=I.mem b _ hb rfl;obtain⟨q1,q2⟩:=Uo I hU (ps:=l) (vs:=vs) (b+1) f3 hy1 hm (λp hp Lg=>hk p (ANG _ hp) (ANG _ Lg));rw[h0] at y1;refine⟨⟨inner',_,QD y1,y2.Gh λ_ _ z=>z.move ⟨ANS _,λ_ _ _=>rfl,λk hk hu=>hU k hk hu⟩, ?_,q1⟩,λi hi=> ?_⟩
         · show iw ν (b::AGK)=_
           unfold iw;rw[AOg,h0]
         · rcases ANM.1 hi with rfl | hi
           · exact⟨_,hb,rfl⟩
           · exact q2 i hi
       · cases h
     · cases h
   · cases h
theorem ZC : ∀ {ps:List PK} {x:PT ps} {b:Nat},(wP ps x b).length=ps.length
 | [],_,_=>rfl
 | .ty t::l,x,b=>congrArg (· +1) ZC
 | .st e fs::l,x,b=>congrArg (· +1) ZC
 | .KR e t::l,x,b=>congrArg (· +1) ZC
theorem AEt {g:FuncId} {fn:Func} {c:Code} {s:Dj} {k k1 m:Nat} {Bt:Nat->List Nat} {C:Bu (TT s.rs × ET s.ps)} (hm:P.follows .mixedOrders=true) (hΘ:Θ.ok P=true) (hS:FP P S k) (hf:P.funcs[g]? =some fn) (hb:fn.body=some c) (hc:IQ Bt c=true) (hn:s.ps.length<=fn.ntmps) (hM:fn.ntmps+JS s.ps<=m) (hF:(fxP s.ps fn.ntmps).all (λj=>C.N.f.contains j)=true)
 (hl:obs Θ S Bt C c 0 (K0I Θ s.rs fn.results.toList s.ps fn.ntmps) True) (hd : ∀x r,s.f k1 x=some r->(den Θ S Bt C c 0 (K0I Θ s.rs fn.results.toList s.ps fn.ntmps) k (tmI fn.ntmps s.ps x) (hpI fn.ntmps m s.ps x)).run=some r):IOk P g s k1:=by
 intro x r hr U w vs bl hU hpar hnd zf;obtain⟨z1,z2,z3,z4,z5,z6,z7⟩:=ACQ (b:=fn.ntmps) hpar;generalize hN:qW w s.ps vs fn.ntmps=N at *;have hrn:((List.range (JS s.ps)).map (fn.ntmps+ ·)).Nodup:=by
  unfold List.Nodup;rw[List.pairwise_map];exact List.nodup_range.imp λh e=>h (Nat.add_left_cancel e)
 have hlt : ∀i∈(List.range (JS s.ps)).map (fn.ntmps+ ·),i<(List.replicate m AB.gone).length:=λi hi=>by
  obtain⟨q,hq,rfl⟩:=AN1.1 hi;have:=AOU.1 hq;rw[AOV];omega
 have hon : ∀i b',(i,b')∈rN s.ps x fn.ntmps->(hpI fn.ntmps m s.ps x)[i]? =some b':=λi b' hi=>rQ (hlt i (z1▸AN1.2 ⟨_,hi,rfl⟩)) (z1▸hrn) hi
 have hoff : ∀i,i ∉ N.map (·.1)-> ¬lv (hpI fn.ntmps m s.ps x) i:=λi hi ⟨b',q1,q2⟩=>by
  unfold hpI at q1;rw[ZD (by rw[z1,<-z2];exact hi),AOX] at q1;split at q1
  · injection q1 with q1;subst q1;simp[EI] at q2
  · cases q1
 have zg : ∀i∈N.map (·.1),∃b',(i,b')∈rN s.ps x fn.ntmps:=λi hi=>by
  obtain⟨p,hp,rfl⟩:=AN1.1 (by rw[z1,<-z2];exact hi:i∈(rN s.ps x fn.ntmps).map (·.1));exact⟨p.2,hp⟩
 have hν : ∀p∈N,GC N (λ_=>undef) p.1=p.2:=λp hp=>Z9 (z2▸hrn) hp
 have hL : ∀i∈N.map (·.1),lv (hpI fn.ntmps m s.ps x) i:=λi hi=>by
  obtain⟨b',hb'⟩:=zg i hi;exact⟨b',hon i b' hb',z4 _ hb'⟩
 have hun : ∀q,Un U (GC N λ_=>undef) (lv (hpI fn.ntmps m s.ps x)) q->U q:=λq hq=>by
  rcases hq with hq | ⟨i,hi,rR⟩
  · exact hq
  · by_cases Py:i∈N.map (·.1)
    · obtain⟨p,hp,rfl⟩:=AN1.1 Py
      rw[hν p hp] at rR;exact zf q (by rw[z3];exact AOq.2 ⟨p,hp,by rw[rR];simp⟩)
    · exact absurd hi (hoff i Py)
 obtain⟨y1,y2⟩:=z7 {toWorld:=w,io:=bl,fx:=(fxP s.ps fn.ntmps).map λj=>(j,GC N (λ_=>undef) j)} (GC N λ_=>undef) (lv (hpI fn.ntmps m s.ps x)) (λp hp=>⟨hν p hp,hL p.1 (AN1.2 ⟨p,hp,rfl⟩)⟩) ⟨ANS _,λ_ _ _=>rfl,λq _ hq=>hun q hq⟩ (λ_ h=>h);rw[ANy] at hF;refine calls_of_wp hf hb ?_;refine Jq hm hΘ (w0:= {toWorld:=w,io:=bl,fx:=(fxP s.ps fn.ntmps).map λj=>(j,GC N (λ_=>undef) j)}) hU (λp hp=> ?_) c k 0 _ _ _ hS hc hl ?_ k _ _ (ANS _) (hd x r hr) (GC N λ_=>undef) _ w ?_
 · obtain⟨j,hj,rfl⟩:=AN1.1 hp
   have:=hF j hj;simpa using this
 · intro k' e tm hp hk' hK ν a w' I
   have fin:(AEr Θ s.rs fn.results.toList s.ps fn.ntmps tm hp).run=some r->a.defers= []/\ ∃v,(results fn a.tmps).run P w'= .ok v w'/\ ∃v' fJ,Ending.returned v= .returned v'/\nC (λq=>U q\/q∈fJ) w' s.rs r.1 v'/\rP (λq=>U q\/q∈fJ) w w' s.ps r.2 vs fJ/\fJ.Nodup/\(∀q∈fJ,(q∈bl\/w.heap.size<=q)/\q<w'.heap.size)/\But bl w w':=by
    intro h;unfold AEr at h;split at h
    · rename_i rx hrx
      split at h
      · rename_i ry ids hry
        split at h
        · rename_i uT
          have h:some (rx,ry)=some r:=h;injection h with h;subst h;simp only[zZ,ANQ,ANy,AOc,AOp,decide_eq_false_iff_not] at uT;obtain⟨t1,t2⟩:=uT;have ACR : ∀j∈ids,lv hp j:=(Uo I (U:=λ_=>False) (λ_ _ z=>z.elim) fn.ntmps hpar hry (λ_ _ _ _ _ _ _ _ z=>z) (λp hp Lg=>by
           have h0:=(I.fx (p.1,GC N (λ_=>undef) p.1) (AN1.2 ⟨p.1,Lg,rfl⟩)).1;rw[hN] at hp;rw[h0];exact hν p hp)).2
          have zh : ∀q,q<w'.heap.size->(U q\/q∈iw ν ids)->Un U ν (lv hp) q:=λq _ hq=>by
           rcases hq with hq | hq
           · exact .inl hq
           · obtain⟨j,hj,hb⟩:=Kl.1 hq
             exact .inr ⟨j,ACR j hj,hb⟩
          have hmt : ∀cs:List AC,(∀j,AC.own j∈cs->j ∉ ids)->Cc (λq=>U q\/q∈iw ν ids) ν hp cs:=λcs hcs j e t xs hj hb k hk hu=>by
           rcases hu with hu | hu
           · have h1:w.heap.size<=k:=I.Rc hb hk
             have:=hU k hu;omega
           · obtain⟨i,hi,rR⟩:=Kl.1 hu
             exact I.qV i j (λe=>hcs j hj (e▸hi)) (ACR i hi) ⟨_,hb,rfl⟩ k rR hk
          obtain⟨us,e1,e2⟩:=Ul hΘ I (U:=λq=>U q\/q∈iw ν ids) zh (λo ho=>hmt _ λj hj=>t2 j (WU (ANP _ (AOq.2 ⟨o,ho,hj⟩)))) hrx;obtain⟨e3,_⟩:=Uo I (U:=λq=>U q\/q∈iw ν ids) zh fn.ntmps hpar hry (hmt _ λj hj=>t2 j (WU (ANK _ hj))) (λp hp Lg=>by
           have h0:=(I.fx (p.1,GC N (λ_=>undef) p.1) (AN1.2 ⟨p.1,Lg,rfl⟩)).1;rw[hN] at hp;rw[h0];exact hν p hp)
          refine⟨I.defers,_,P9 e1,_,iw ν ids,rfl,⟨us,rfl,e2⟩,e3,WV I (Tl t1) ACR,λq hq=> ?_,⟨I.fr.os,I.fr.tape,I.fr.output,I.fr.size,λk hk hk2=>I.fr.block k hk hk2⟩⟩;obtain⟨j,hj,Zh⟩:=Kl.1 hq;have hlt:=I.lt (ACR j hj) Zh;exact⟨hlt.2.symm,hlt.1⟩
        · cases h
      · cases h
    · cases h
   cases e with
   | normal=>exact fin hK
   | ret=>exact fin hK
   | exit id=>exact(Tree.Gd hK).elim
 · refine⟨by simp[tmI,ZC,z6],λi y hy=> ?_,λj b h1 h2=> ?_,λi j hij hi hj q h1 h2=> ?_,⟨rfl,rfl,rfl,ANS _,λ_ _ _=>rfl⟩,λp hp=> ?_,rfl⟩
   · unfold tmI at hy
     rw[AO8] at hy;split at hy
     · rename_i hi
       obtain⟨v,hv,hR⟩:=y1 i y hy;have:(vs.toArray++Array.replicate (fn.ntmps-vs.toArray.size) undef).getD i undef=v:=by
        have hlt:=(ANN.1 hv).1;rw[ANz,APw,if_pos (by simpa using hlt)];simp[hv]
       show Fa _ _ _ _ _ ((vs.toArray++Array.replicate (fn.ntmps-vs.toArray.size) undef).getD i undef);rw[this];exact hR
     · rw[AOX] at hy
       split at hy
       · injection hy with hy;subst hy;trivial
       · cases hy
   · by_cases Py:j∈N.map (·.1)
     · obtain⟨b',hb'⟩:=zg j Py
       rw[hon j b' hb'] at h1;injection h1 with h1;subst h1;exact y2 _ hb'
     · exact absurd ⟨b,h1,h2⟩ (hoff j Py)
   · have in_ : ∀ {i},lv (hpI fn.ntmps m s.ps x) i->C4 (GC N (λ_=>undef) i)=some q-> ∃p∈N,p.1=i/\C4 p.2=some q:=λ{i} hi hb=>by
      by_cases Py:i∈N.map (·.1)
      · obtain⟨p,hp,rfl⟩:=AN1.1 Py
        rw[hν p hp] at hb;exact⟨p,hp,rfl,hb⟩
      · exact absurd hi (hoff i Py)
     obtain⟨p,a1,a2,a3⟩:=in_ hi h1;obtain⟨p',b1,b2,b3⟩:=in_ hj h2;have:p=p':=Tm (z3▸hnd) a1 b1 (k:=q) (by rw[a3];simp) (by rw[b3];simp);exact hij (by rw[<-a2,<-b2,this])
   · obtain⟨j,hj,rfl⟩:=AN1.1 hp
     obtain⟨b',q1,q2⟩:=z5 j hj;exact⟨rfl,b',hon j b' q1,q2⟩
end
theorem Ez {P:Program} {Θ:JE} {l:List (FuncId × FE)} {g:FuncId} {fn:Func} {c:Code} {s:Dj} {m:Nat} {Bt:Nat->List Nat} {C:Bu (TT s.rs × ET s.ps)} {A:Type} {q:A->TT s.rs × ET s.ps} {F:Nat->PT s.ps->Option A} (hm:P.follows .mixedOrders=true) (hΘ:Θ.ok P=true) (ho:rL P l) (hf:P.funcs[g]? =some fn) (hb:fn.body=some c) (hc:IQ Bt c=true) (hn:s.ps.length<=fn.ntmps) (hg:KT P g=true) (hM:fn.ntmps+JS s.ps<=m) (hX:(fxP s.ps fn.ntmps).all (λj=>C.N.f.contains j)=true)
 (hF : ∀k x,s.f k x=(F k x).map q) (hl:obs Θ (look l) Bt C c 0 (K0I Θ s.rs fn.results.toList s.ps fn.ntmps) True) (hd : ∀k x,Ad q (F k x) (fL (tmI fn.ntmps s.ps x) λtm=>fH (hpI fn.ntmps m s.ps x) λhp=>den Θ (look l) Bt C c 0 (K0I Θ s.rs fn.results.toList s.ps fn.ntmps) k tm hp)):Tj P g s :=
 ⟨hg,λk=>AEt hm hΘ (QA (rL.upTo ho)) hf hb hc hn hM hX hl λx r hr=>by
   rw[hF] at hr;obtain⟨a,ha,rfl⟩:=AOC.1 hr;have h2:=hd k x;unfold Ad at h2;have:=h2 a ha;rw[ef,eg] at this;exact this⟩
end
section
def AEu (tm:List AV) (hp:List AB) (e:TypeId) (fs:List NF):List ResultVar->Option (Bool × NT fs)
 | [.tmp q]=>match AQ tm (.tmp q) with
   | .val [.Li]=>some (true,yl fs)
   | .val [.ptr j 0]=>match hp[j]? with
     | some (.cells .mine e' cs)=>if e'=e then(match rdN hp fs cs with
       | some x=>some (false,x)
       | none=>none) else none
     | _=>none
   | _=>none
 | _=>none
def KP (e:TypeId) (fs:List NF) (vs:List ResultVar):FO (Bool × NT fs):=λk ex tm hp=>match ex with
 | .exit _=> .non
 | _=>ofO (AEu tm hp e fs vs)
section
variable {P:Program} {Θ:JE} {S:FuncId->Option FE} {U0:Nat->Prop} {ν:Nat->Value} {tm:List AV} {hp:List AB} {w0:St} {w:World} {a:Act}
theorem iy (I:Inv U0 ν tm hp w0 a w) {U:Nat->Prop} (hU : ∀k,k<w.heap.size->U k->Un U0 ν (lv hp) k) : ∀ {fs:List NF} {cs:List AC} {x:NT fs} {vs:List Value},Cc U ν hp cs->rdN hp fs cs=some x->CD (CW U0 ν (lv hp) w) cs vs->NfR U w fs x vs
 | [],[],x,vs,_,h,hr=>by
   cases vs with
   | nil=>rfl
   | cons _ _=>exact hr.elim
 | [],_::_,x,vs,_,h,hr=>by simp[rdN] at h
 | .ty t::l,cs,x,vs,hm,h,hr=>by
   simp only[rdN] at h;split at h
   · rename_i x1 cs1 hx
     split at h
     · rename_i y hy
       injection h with h;subst h;obtain⟨v1,v2,e1,e2,e3,e4⟩:=Kk I hU hm hx hr;exact⟨v1,v2,e1,e2,iy I hU e4 hy e3⟩
     · cases h
   · cases h
 | .nil::l,[],x,vs,_,h,hr=>by simp[rdN] at h
 | .nil::l,c::cs,x,vs,hm,h,hr=>by
   cases c with
   | Bo =>
     simp only[rdN] at h
     match vs,hr with
     | v::vs,hr=>exact⟨vs,by rw[show v= .slice none 0 0 from hr.1],iy (fs:=l) I hU (λj e t xs hj=>hm j e t xs (ANG _ hj)) h hr.2⟩
     | [],hr=>exact hr.elim
   | _=>simp[rdN] at h
theorem AGL {g:FuncId} {fn:Func} {c:Code} {s:Zi} {k k1:Nat} {Bt:Nat->List Nat} {C:Bu (Bool × NT s.fs)} (hm:P.follows .mixedOrders=true) (hΘ:Θ.ok P=true) (hS:FP P S k) (hf:P.funcs[g]? =some fn) (hb:fn.body=some c) (hc:IQ Bt c=true) (hn:s.ps.length<=fn.ntmps)
 (hl:obs Θ S Bt C c 0 (KP s.e s.fs fn.results.toList) True) (hd : ∀x r,s.f k1 x=some r->(den Θ S Bt C c 0 (KP s.e s.fs fn.results.toList) k (IP fn.ntmps s.ps x) (List.replicate fn.ntmps .gone)).run=some r):POk P g s k1:=by
 intro x r hr U w vs hU zW;have nB : ∀j,¬lv (List.replicate fn.ntmps AB.gone) j:=λj ⟨b,h1,h2⟩=>by
  rw[AOX] at h1;split at h1
  · injection h1 with h1;subst h1;simp[EI] at h2
  · cases h1
 have hun : ∀q,Un U (λ_=>undef) (lv (List.replicate fn.ntmps AB.gone)) q->U q:=λq hq=>hq.elim id λ⟨j,hj,_⟩=>absurd hj (nB j)
 have zX:SV (Un U (λ_=>undef) (lv (List.replicate fn.ntmps AB.gone))) w s.ps x vs:=by
  have key : ∀ {ps:List Ty} {x:TT ps} {vs:List Value},SV U w ps x vs->SV (Un U (λ_=>undef) (lv (List.replicate fn.ntmps AB.gone))) w ps x vs:=by
   intro ps;induction ps with
   | nil=>intro x vs h;exact h
   | cons t ts ih =>
     intro x vs h;cases vs with
     | nil=>exact h.elim
     | cons v vs =>
       obtain⟨⟨cs,h1,h2⟩,h3⟩:=h;exact⟨⟨cs,h1,h2.move ⟨ANS _,λ_ _ _=>rfl,λq _ z=>hun q z⟩⟩,ih h3⟩
  exact key zW
 obtain⟨hlen,hrel⟩:=Z7 zX;refine calls_of_wp hf hb ?_;refine Jq hm hΘ (w0:= {toWorld:=w,io:= [],fx:= []}) hU (λp hp=>by simp at hp) c k 0 _ _ _ hS hc hl ?_ k _ _ (ANS _) (hd x r hr) (λ_=>undef) _ w ?_
 · intro k' e tm hp hk' hK ν a w' I
   have fin:(ofO (AEu tm hp s.e s.fs fn.results.toList)).run=some r->a.defers= []/\ ∃v,(results fn a.tmps).run P w'= .ok v w'/\ ∃v',Ending.returned v= .returned v'/\Below w.heap.size w w'/\((r.1=true/\v'= .pointer none)\/(r.1=false/\ ∃b us,v'= .pointer (some ⟨b,0,none⟩)/\w.heap.size<=b/\w'.heap[b]? =some (.cells us.toArray s.e (0,0))/\NfR (λq=>U q\/q=b) w' s.fs r.2 us)):=by
    intro h;rw[uI] at h;have Pt:Below w.heap.size w w':=⟨I.fr.os,I.fr.tape,I.fr.output,I.fr.size,λk hk=>I.fr.block k hk (by simp)⟩;unfold AEu at h;split at h
    · rename_i q hres
      have hrun : ∀v,a.tmps.getD q undef=v->(results fn a.tmps).run P w'= .ok v w':=λv hv=>by
       have:=P9 (P:=P) (w:=w') (a:=a) (fn:=fn) (us:= [v]) (by rw[hres];simp[AQO,Rk,hv]);exact this
      split at h
      · rename_i hx
        injection h with h;subst h;have hv:a.eval (.tmp q)= .pointer none:=Ud (val_one (hx▸I.AQ (.tmp q)));exact⟨I.defers,_,hrun _ hv,_,rfl,Pt, .inl ⟨rfl,rfl⟩⟩
      · rename_i j hx
        split at h
        · rename_i e' cs hb'
          split at h
          · rename_i he
            subst he;split at h
            · rename_i y hy
              injection h with h;subst h;obtain⟨hj,b,hν,hv⟩:=val_one (hx▸I.AQ (.tmp q));obtain⟨b',us,h1,h2,h3,h4,h5⟩:=I.cells hb';rw[hν] at h1;injection h1 with h1;injection h1 with h1;injection h1 with h1;subst h1;refine⟨I.defers,_,hrun _ hv,_,rfl,Pt, .inr ⟨rfl,b,us,rfl,h2,h3, ?_⟩⟩;refine iy I (λk _ z=>z.elim .inl λz=> .inr ⟨j,hj,by rw[hν,z];rfl⟩) (λi e t xs hi rR k hk hu=> ?_) hy h4;rcases hu with hu | hu
              · have h1:w.heap.size<=k:=I.Rc rR hk
                have:=hU k hu;omega
              · have hne:i≠j:=by
                 rintro rfl;rw[hb'] at rR;injection rR with rR;cases rR
                exact I.qV i j hne ⟨_,rR,rfl⟩ hj k hk (by rw[hν,hu];rfl)
            · cases h
          · cases h
        · cases h
      · cases h
    · cases h
   cases e with
   | normal=>exact fin hK
   | ret=>exact fin hK
   | exit id=>exact(Tree.Gd hK).elim
 · refine⟨by simp[IP,Z6,hlen],λi y hy=> ?_,λj b h1 h2=>absurd ⟨b,h1,h2⟩ (nB j),λi j _ hi=>absurd hi (nB i),⟨rfl,rfl,rfl,ANS _,λ_ _ _=>rfl⟩,λp hp=>by simp at hp,rfl⟩
   unfold IP at hy;rw[AO8] at hy;split at hy
   · rename_i hi
     obtain⟨v,hv,hR⟩:=hrel i y hy;have:(vs.toArray++Array.replicate (fn.ntmps-vs.toArray.size) undef).getD i undef=v:=by
      have hlt:=(ANN.1 hv).1;rw[ANz,APw,if_pos (by simpa using hlt)];simp[hv]
     show Fa _ _ _ _ _ ((vs.toArray++Array.replicate (fn.ntmps-vs.toArray.size) undef).getD i undef);rw[this];exact hR
   · rw[AOX] at hy
     split at hy
     · injection hy with hy;subst hy;trivial
     · cases hy
end
theorem AGM {P:Program} {Θ:JE} {l:List (FuncId × FE)} {g:FuncId} {fn:Func} {c:Code} {s:Zi} {Bt:Nat->List Nat} {C:Bu (Bool × NT s.fs)} {A:Type} {m:A->Bool × NT s.fs} {F:Nat->TT s.ps->Option A} (hm:P.follows .mixedOrders=true) (hΘ:Θ.ok P=true) (ho:rL P l) (hf:P.funcs[g]? =some fn) (hb:fn.body=some c) (hc:IQ Bt c=true) (hn:s.ps.length<=fn.ntmps) (hg:KT P g=true)
 (hF : ∀k x,s.f k x=(F k x).map m) (hl:obs Θ (look l) Bt C c 0 (KP s.e s.fs fn.results.toList) True) (hd : ∀k x,Ad m (F k x) (fL (IP fn.ntmps s.ps x) λtm=>fH (List.replicate fn.ntmps .gone) λhp=>den Θ (look l) Bt C c 0 (KP s.e s.fs fn.results.toList) k tm hp)):FPk P g s :=
 ⟨hg,λk=>AGL (k:=k) (k1:=k) hm hΘ (QA ho.upTo) hf hb hc hn hl λx r hr=>by
   rw[hF] at hr;obtain⟨a,ha,rfl⟩:=AOC.1 hr;have:=hd k x;unfold Ad at this;have:=this a ha;rw[ef,eg] at this;exact this⟩
end
section
theorem iz {x c:Int} (h:0<=x):Int.tdiv x c=x/c:=AN5 h
theorem jA {x c:Int} (h:0<=x):Int.tmod x c=x%c:=AOH h
theorem rS {y:Int} (h:0<=y) (h1:y<18446744073709551616):IntKind.u64.wrap y=y:=by rw[IntKind.wrap_u64];omega
theorem jB {y:Int} (h : -9223372036854775808<=y) (h1:y<9223372036854775808):wrap64 y=y:=by unfold wrap64;omega
theorem Up {x:Int} :shl .u64 x 1=IntKind.u64.wrap (x*2):=rfl
theorem aA {x a:Int} :shl .u64 x (mn a 10)=IntKind.u64.wrap (x*2^(mn a 10).toNat):=by
 have:(mn a 10).toNat<=10:=by unfold mn;split<;>omega
 unfold shl;rw[ANb (by show(mn a 10).toNat<=64;omega)]
theorem AJR:wr .i64 (-0)= -0:=jB (by omega) (by omega)
section
variable {A B C R:Type} {m:A->R}
theorem zj {c:Prop} (h:c:=by first
 | assumption
 | exact rfl
 | (simp[wr, *];done)
 | (simp_all[wr];done)
 | (simp_all[wr,rd,dflt];done)
 | (dsimp only;simp only[ANT,ANt,AP9,AN3,AOV,ANO,ANo] at *;omega)
 | (simp(disch:=first | omega | (simp only[mx,mn];(repeat' split)<;>omega) | fail) only[wr,shr,shl,iz,jA,rS,jB,IntKind.wrap_u8,rd,dflt,IntKind.bits,decide_eq_true_eq,decide_eq_false_iff_not,beq_iff_eq,bne_iff_ne] at *;first | done | omega | (simp only[ANT,ANt,AP9,AN3,AOV,ANO,ANo] at *;omega))
 | (simp(disch:=first | omega | (simp only[mx,mn];(repeat' split)<;>omega) | fail) [wr,shr,shl,iz,jA,rS,jB,IntKind.wrap_u8,rd,dflt,IntKind.bits, *];done)
 | (simp_all(disch:=first | omega | (simp only[mx,mn];(repeat' split)<;>omega) | fail) [wr,shr,shl,iz,jA,rS,jB,IntKind.wrap_u8,rd,dflt,IntKind.bits];done)
 | (simp only[wr,wrap64,mn,mx] at *;(repeat' split)<;>omega)
 | (simp only[wr,Up,aA,APx] at *;first | done | (simp[*];done))
 | fail):c:=h
theorem Ad.p {c:Prop} [d:Decidable c] {X:Option A} {Y Z:Tree R} (h:c) (k:Ad m X Y):Ad m X (.J2 c Y Z):=Ad.AJP h k
theorem Ad.n {c:Prop} [d:Decidable c] {X:Option A} {Y Z:Tree R} (h : ¬c) (k:Ad m X Z):Ad m X (.J2 c Y Z):=Ad.AJQ h k
theorem eqs {D:Type} {x y:Option B} {q:B->D} (h:x=y):x.map q=y.map q:=congrArg _ h
theorem Ad.t {x:Option A} {y:Option R} (h:x.map m=y:=by first | exact rfl | exact eqs (if_pos zj).symm | (refine eqs ?_;congr 1<;>exact zj) | (refine eqs (Eq.trans ?_ (if_pos zj).symm);congr 1<;>exact zj)):Ad m x (.dR y .done):=Ad.tail h
theorem Ad.c {x:Option B} {q:B->C} {y:Option C} {F:B->Option A} {G:C->Tree R} (h : ∀t,x=some t->Ad m (F t) (G (q t))) (hy:x.map q=y:=by first | exact rfl | (rw[<-APx];exact rfl) | (simp only[wr,Up,aA,APx];exact rfl) | (refine eqs ?_;congr 1<;>exact zj)):Ad m (x.bind F) (.dR y G):=Ad.call hy h
theorem Ad.ag {x:Option B} {t:B} {q:B->C} {y:Option C} {X:Option A} {G:C->Tree R} (hy:x.map q=y) (hx:x=some t) (h:Ad m X (G (q t))):Ad m X (.dR y G):=Ad.again hx hy h
theorem Ad.sb {a:B} {F:B->Option A} {y:Tree R} (h:Ad m (F a) y):Ad m ((some a).bind F) y:=h
theorem Ad.d {a:A} {r:R} (h:r=m a:=by first | exact rfl | (simp[wr, *];done) | (rw[AJR];exact rfl) | (simp only[wr,APx];exact rfl) | (refine congrArg _ ?_;exact zj)):Ad m (some a) (.done r):=Ad.now h
end
theorem Ad.it {A R:Type} {m:A->R} {c:Prop} {X Y:Option A} {Z U:Tree R} [d:Decidable c] [d1:Decidable c] (h1:c->Ad m X Z) (h2 : ¬c->Ad m Y U):Ad m (if c then X else Y) (.J2 c Z U):=Ad.ite (λh=>Ad.p h (h1 h)) (λh=>Ad.n h (h2 h))
theorem Ad.ip {A R:Type} {m:A->R} {c:Prop} {X Y:Option A} {Z:Tree R} [d:Decidable c] (h:c) (k:Ad m X Z):Ad m (if c then X else Y) Z:=by rw[if_pos h];exact k
theorem Ad.ir {A R:Type} {m:A->R} {c:Prop} {X Y:Option A} {Z:Tree R} [d:Decidable c] (h : ¬c) (k:Ad m Y Z):Ad m (if c then X else Y) Z:=by rw[if_neg h];exact k
theorem go {p:Prop} (h:p:=by
 (conv=>arg 3;whnf)
 repeat' (first | exact Ad.none | exact Ad.d | exact Ad.t | (with_reducible refine Ad.sb ?_) | (refine Ad.c λt ht=> ?_;conv=>arg 3;whnf) | (refine Ad.p zj ?_;conv=>arg 3;whnf) | (refine Ad.n zj ?_;conv=>arg 3;whnf) | (refine Ad.ip (by first | assumption | exact rfl | (simp[wr, *];done) | fail) ?_) | (refine Ad.ir (by first | assumption | exact rfl | (simp[wr, *];done) | fail) ?_) | (refine Ad.ag rfl (by assumption) ?_;conv=>arg 3;whnf) | refine Ad.ite (λh=> ?_) (λh=> ?_))):p:=h
theorem goq {p:Prop} (h:p:=by
 (conv=>arg 3;whnf)
 repeat' (first | exact Ad.none | exact Ad.now rfl | exact Ad.tail rfl | (with_reducible refine Ad.sb ?_) | (refine Ad.call (by first | exact rfl | (rw[<-APx];exact rfl) | (simp only[wr,Up,aA,APx];exact rfl)) λt ht=> ?_;conv=>arg 3;whnf) | (refine Ad.p (by first | assumption | exact rfl | (simp[wr, *];done) | fail) ?_;conv=>arg 3;whnf) | (refine Ad.n (by first | assumption | exact rfl | (simp[wr, *];done) | fail) ?_;conv=>arg 3;whnf) | (refine Ad.it (λh=> ?_) (λh=> ?_)<;>(conv=>arg 3;whnf)) | (refine Ad.ip (by first | assumption | exact rfl | (simp[wr, *];done) | fail) ?_) | (refine Ad.ir (by first | assumption | exact rfl | (simp[wr, *];done) | fail) ?_) | (refine Ad.ag rfl (by assumption) ?_;conv=>arg 3;whnf) | refine Ad.ite (λh=> ?_) (λh=> ?_) | (refine Ad.p (by first | (simp_all[wr];done) | (simp only[wr,Up,aA,decide_eq_true_eq];omega) | fail) ?_;conv=>arg 3;whnf) | (refine Ad.n (by first | (simp_all[wr];done) | (simp only[wr,Up,aA,decide_eq_true_eq];omega) | fail) ?_;conv=>arg 3;whnf))):p:=h
end
section
section
variable {U:Nat->Prop} {w w':World} {e:TypeId} {k:IntKind}
theorem ACS {xs:List Int} {cs:List Value} (h:Rd U w (.row e (.int k)) xs cs) : ∃A c,cs= [.slice A xs.length c]/\Kd.C (Kd.int k) w A xs.length xs/\xs.length<=c:=by
 obtain⟨A,c,h1,h2,h3⟩:=h.K;exact⟨A,c,h1,h3,h2⟩
theorem LI {A:Option Addr} {c:Nat} {xs:List Int} (hc:Kd.C (Kd.int k) w A xs.length xs) (hl:xs.length<=c):Rd (λ_=>False) w (.row e (.int k)) xs [.slice A xs.length c]:=by
 refine⟨A,c,rfl,hl,hc.2.1,λhn=> ?_⟩;obtain⟨ad,ha,hcell⟩:=hc.2.2 hn;refine⟨ad,ha,λj p hp=>⟨[.int k p],rfl,λi u hu W hs hb=> ?_⟩⟩;obtain⟨c',zk,hc2,hc3⟩:=hcell j p hp;have hc2:c'= [.int k p]:=hc2;subst hc2;have h:w.cell? (ad.add (j*(Ty.int k).size+i))=some u:=hc3 i u hu;have hlt:=World.block_lt_of_cell? w _ h;show W.cell? (ad.add (j*(Ty.int k).size+i))=some u;rw[<-h];unfold World.cell?;rw[hb _ hlt (λq=>q)]
theorem yL {r:Bool} {v:Value} (h:nC U w [.bool] (r,()) v):v= .bool r:=by
 obtain⟨us,rfl,h⟩:=h
 match us,h with
 | [u],⟨⟨cs,h1,h2⟩,_⟩ =>
   have h2:cs= [.bool r]:=h2;subst h2;exact h1
theorem SV.cons {t:Ty} {ts:List Ty} {x:TT (t::ts)} {vs:List Value} (h:SV U w (t::ts) x vs) : ∃cs vs',vs=Ny cs::vs'/\Rd U w t x.1 cs/\SV U w ts x.2 vs':=by
 cases vs with
 | nil=>exact h.elim
 | cons v vs=>obtain⟨⟨cs,rfl,h1⟩,h2⟩:=h;exact⟨cs,vs,rfl,h1,h2⟩
theorem ACT {U':Nat->Prop} {n:Nat} {ok:Nat->Prop} {xs:List Int} {v:Value} (h:Kd.R (Kd.int k) e w' n ok v xs) : ∃inner,Ow w' n e (kd (.int k)).sz v xs.length inner/\Bn (λy c=>Rd U' w' (.int k) y c) (kd (.int k)).sz xs inner:=by
 obtain⟨_,inner,ho,hr⟩:=h;exact⟨inner, .of ho,hr.Gh λ_ _ z=>z⟩
end
end
end Go.Proofs.YtjocbnjpjihpnaaGreatW.Gb
end
