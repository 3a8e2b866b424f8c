/- Words for walks over printed functions: those that are used here, as a program has laid them. -/
import Derived.Test.YtjocbnjpjihpnaaGreatWWb
section
namespace Go.Proofs.YtjocbnjpjihpnaaGreatW.Abs
open Go.RowKit Go.Proofs.YtjocbnjpjihpnaaGreatW.PrintWords Go.Proofs.YtjocbnjpjihpnaaGreatW.PrintLast Go.Proofs.YtjocbnjpjihpnaaGreatW.PrintMore
set_option linter.unusedVariables false
set_option linter.unusedSectionVars false
set_option linter.unusedSimpArgs false

inductive CK where
 | ty (t:Ty)
 | own (q:Lq) (id:Nat) (e:TypeId) (t:Ty)
 | al (id:Nat)
 | ptr (j o:Nat)
 | aptr (j:Nat)
 | map (id:Nat)
@[reducible] def CT:List CK→Type
  | []=>Unit
  | .ty t::l=>T t × CT l
  | .own _ _ _ t::l=>List (T t) × CT l
  | .al _::l=>CT l
  | .ptr _ _::l=>CT l
  | .aptr _::l=>CT l
  | .map _::l=>List (Int × Int) × CT l
def rdC (hp:List AB):(fs:List CK)→List AC→Option (CT fs)
 | [],[]=>some ()
 | .ty t::l,cs=>match toT hp t cs with
   | some (x,cs')=>match rdC hp l cs' with
     | some y=>some (x,y)
     | none=>none
   | none=>none
 | .own q _ _ _::l, .nils::cs=>if q= .kept then none else match rdC hp l cs with
   | some y=>some ([],y)
   | none=>none
 | .own q id e t::l, .own j::cs=>match hp[j]? with
   | some (.row q' e' t' xs)=>if h:e'=e∧t'=t then (if q'=q∧(q= .kept→j=id) then (match rdC hp l cs with
     | some y=>h.2▸some (xs,y)
     | none=>none) else none) else none
   | _=>none
 | .al _::l, .nils::cs=>rdC hp l cs
 | .al _::l, .own j::cs=>match hp[j]? with
   | some (.row _ _ _ _)=>rdC hp l cs
   | some (.map _)=>rdC hp l cs
   | _=>none
 | .map _::l, .own j::cs=>match hp[j]? with
   | some (.map xs)=>match rdC hp l cs with
     | some y=>some (xs,y)
     | none=>none
   | _=>none
 | .ptr j o::l, .ptr j' o'::cs=>if j'=j∧o'=o then rdC hp l cs else none
 | .aptr j::l, .aptr j'::cs=>if j'=j then rdC hp l cs else none
 | _,_=>none
def wrC:(fs:List CK)→CT fs→List AC
 | [],_=> []
 | .ty t::l,(x,y)=>expl t x++wrC l y
 | .own _ id _ _::l,(_,y)=> .own id::wrC l y
 | .al id::l,x=> .own id::wrC l x
 | .ptr j o::l,x=> .ptr j o::wrC l x
 | .aptr j::l,x=> .aptr j::wrC l x
 | .map id::l,(_,y)=> .own id::wrC l y
def blC:(fs:List CK)→CT fs→List (Nat × AB)
 | [],_=> []
 | .ty _::l,(_,y)=>blC l y
 | .own q id e t::l,(x,y)=>(id, .row q e t x)::blC l y
 | .al _::l,x=>blC l x
 | .ptr _ _::l,x=>blC l x
 | .aptr _::l,x=>blC l x
 | .map id::l,(x,y)=>(id, .map x)::blC l y
def roC:List CK→List AC→List (Nat × Option Nat)
 | .ty t::l,cs=>roC l (cs.drop t.size)
 | .own _ id _ _::l, .own j::cs=>(id,some j)::roC l cs
 | .own _ id _ _::l,_::cs=>(id,none)::roC l cs
 | .map id::l, .own j::cs=>(id,some j)::roC l cs
 | .map id::l,_::cs=>(id,none)::roC l cs
 | .al _::l,_::cs=>roC l cs
 | .ptr _ _::l,_::cs=>roC l cs
 | .aptr _::l,_::cs=>roC l cs
 | _,_=> []
def alC:List CK→List AC→List (Nat × Option Nat)
 | .ty t::l,cs=>alC l (cs.drop t.size)
 | .al id::l, .own j::cs=>(id,some j)::alC l cs
 | .al id::l,_::cs=>(id,none)::alC l cs
 | .own _ _ _ _::l,_::cs=>alC l cs
 | .map _::l,_::cs=>alC l cs
 | .ptr _ _::l,_::cs=>alC l cs
 | .aptr _::l,_::cs=>alC l cs
 | _,_=> []
def tyC:List CK→List AC→List AC
 | .ty t::l,cs=>cs.take t.size++tyC l (cs.drop t.size)
 | .own _ _ _ _::l,_::cs=>tyC l cs
 | .map _::l,_::cs=>tyC l cs
 | .al _::l,_::cs=>tyC l cs
 | .ptr _ _::l,_::cs=>tyC l cs
 | .aptr _::l,_::cs=>tyC l cs
 | _,_=> []
def ptrC:List CK→List Nat
 | []=> []
 | .ptr j _::l=>j::ptrC l
 | .aptr j::l=>j::ptrC l
 | _::l=>ptrC l
inductive Slot where
 | tmp (t:Tmp) (fs:List CK)
 | blk (j:Nat) (q:Lq) (e:TypeId) (fs:List CK)
 | arr (j:Nat) (e:TypeId) (t:Ty)
@[reducible] def TS:List Slot→Type
  | []=>Unit
  | .tmp _ fs::l=>CT fs × TS l
  | .blk _ _ _ fs::l=>CT fs × TS l
  | .arr _ _ t::l=>List (T t) × TS l
def cellsAt (tm:List AV) (hp:List AB):Slot→List AC
 | .tmp t _=>cellsOf (tm.getD t .junk)
 | .blk j _ _ _=>match hp[j]? with
   | some (.cells _ _ cs)=>cs
   | _=> []
 | .arr _ _ _=> []
def isBlk (hp:List AB) (j:Nat) (q:Lq) (e:TypeId):Bool:=match hp[j]? with
 | some (.cells q' e' _)=>q'==q&&e'==e
 | _=>false
def isVal (tm:List AV) (t:Tmp):Bool:=match tm.getD t .junk with
 | .val _=>true
 | _=>false
def rdS (tm:List AV) (hp:List AB):(sl:List Slot)→Option (TS sl)
 | []=>some ()
 | .tmp t fs::l=>if isVal tm t=true then (match rdC hp fs (cellsAt tm hp (.tmp t fs)) with
   | some x=>match rdS tm hp l with
     | some y=>some (x,y)
     | none=>none
   | none=>none) else none
 | .blk j q e fs::l=>if isBlk hp j q e=true then (match rdC hp fs (cellsAt tm hp (.blk j q e fs)) with
   | some x=>match rdS tm hp l with
     | some y=>some (x,y)
     | none=>none
   | none=>none) else none
 | .arr j e t::l=>match hp[j]? with
   | some (.row .mine e' t' xs)=>if h:e'=e∧t'=t then (match rdS tm hp l with
     | some y=>h.2▸some (xs,y)
     | none=>none) else none
   | _=>none
def wrT:(sl:List Slot)→TS sl→List AV→List AV
 | [],_,tm=>tm
 | .tmp t fs::l,(x,y),tm=>wrT l y (tm.set t (.val (wrC fs x)))
 | .blk _ _ _ _::l,(_,y),tm=>wrT l y tm
 | .arr _ _ _::l,(_,y),tm=>wrT l y tm
def blS:(sl:List Slot)→TS sl→List (Nat × AB)
 | [],_=> []
 | .tmp _ fs::l,(x,y)=>blC fs x++blS l y
 | .blk j q e fs::l,(x,y)=>(j, .cells q e (wrC fs x))::(blC fs x++blS l y)
 | .arr j e t::l,(x,y)=>(j, .row .mine e t x)::blS l y
def roS (tm:List AV) (hp:List AB):List Slot→List (Nat × Option Nat)
 | []=> []
 | .tmp t fs::l=>roC fs (cellsAt tm hp (.tmp t fs))++roS tm hp l
 | .blk j q e fs::l=>(j,some j)::(roC fs (cellsAt tm hp (.blk j q e fs))++roS tm hp l)
 | .arr j _ _::l=>(j,some j)::roS tm hp l
def alS (tm:List AV) (hp:List AB):List Slot→List (Nat × Option Nat)
 | []=> []
 | .tmp t fs::l=>alC fs (cellsAt tm hp (.tmp t fs))++alS tm hp l
 | .blk j q e fs::l=>alC fs (cellsAt tm hp (.blk j q e fs))++alS tm hp l
 | .arr _ _ _::l=>alS tm hp l
def tyS (tm:List AV) (hp:List AB):List Slot→List AC
 | []=> []
 | .tmp t fs::l=>tyC fs (cellsAt tm hp (.tmp t fs))++tyS tm hp l
 | .blk j q e fs::l=>tyC fs (cellsAt tm hp (.blk j q e fs))++tyS tm hp l
 | .arr _ _ _::l=>tyS tm hp l
def ptrS:List Slot→List Nat
 | []=> []
 | .tmp _ fs::l=>ptrC fs++ptrS l
 | .blk _ _ _ fs::l=>ptrC fs++ptrS l
 | .arr _ _ _::l=>ptrS l
def blkS:List Slot→List Nat
 | []=> []
 | .tmp _ _::l=>blkS l
 | .blk j _ _ _::l=>j::blkS l
 | .arr j _ _::l=>j::blkS l
def nodupB:List Nat→Bool
 | []=>true
 | a::l=> !l.contains a&&nodupB l
def srcs:List (Nat × Option Nat)→List Nat
 | []=> []
 | (_,some j)::l=>j::srcs l
 | (_,none)::l=>srcs l
def roOf:List (Nat × Option Nat)→Nat→Option Nat
 | [],_=>none
 | (i,s)::l,j=>if i=j then s else roOf l j
def inRo:List (Nat × Option Nat)→Nat→Option Nat→Bool
 | [],_,_=>false
 | (i,s)::l,j,u=>(i==j&&s==u) || inRo l j u
structure CN where
 n:Nat
 m:Nat
 f:List Nat
def fitB (N:CN) (tm:List AV) (hp:List AB) (sl:List Slot):Bool :=
 (tm.length==N.n&&((alS tm hp sl).all fun p=>inRo (roS tm hp sl) p.1 p.2)&&(N.f.all fun j=>inRo (roS tm hp sl) j (some j)))&&nodupB ((roS tm hp sl).map (·.1))&&nodupB (srcs (roS tm hp sl))&&((roS tm hp sl).all fun p=>decide (p.1<N.m))&&((ptrS sl).all fun j=>(blkS sl).contains j)
def atCut {R:Type} (N:CN) (sl:List Slot) (g:Nat→TS sl→Option R) (k:Nat) (tm:List AV) (hp:List AB):Tree R :=
 fChs (fzs hp (tyS tm hp sl)) hp fun hp'=>if fitB N tm hp' sl=true then (match rdS tm hp' sl with
  | some x=> .cll (g k x) .done
  | none=> .non) else .non
def cutT (N:CN) (sl:List Slot) (x:TS sl):List AV:=wrT sl x (List.replicate N.n .junk)
def cutH (N:CN) (sl:List Slot) (x:TS sl):List AB:=chs (blS sl x) (List.replicate N.m .gone)
section
variable {U0:Nat→Prop} {ν:Nat→Value} {tm:List AV} {hp:List AB} {w0:St} {w:World} {a:Act}
inductive Vw (hp:List AB) (ρ:Nat→Option Nat) (L':Nat→Prop):List AC→List AC→Prop where
 | nil:Vw hp ρ L' [] []
 | ty {t:Ty} {x:T t} {cs rest cs':List AC} (h:toT hp t cs=some (x,rest)) (hf : ∀ (j:Nat) (e:TypeId) (t':Ty) (xs:List (T t')),AC.own j∈cs.take t.size→hp[j]? ≠some (.row .mine e t' xs)) (hr:Vw hp ρ L' rest cs') (hd:rest=cs.drop t.size):Vw hp ρ L' cs (expl t x++cs')
 | own {i j:Nat} {cs cs':List AC} (h:ρ i=some j) (hl:L' i) (hj:lv hp j) (hr:Vw hp ρ L' cs cs'):Vw hp ρ L' (.own j::cs) (.own i::cs')
 | nils {i:Nat} {cs cs':List AC} (h:ρ i=none) (hl:L' i) (hr:Vw hp ρ L' cs cs'):Vw hp ρ L' (.nils::cs) (.own i::cs')
 | ptr {j o:Nat} {cs cs':List AC} (h:ρ j=some j) (hl:L' j) (hr:Vw hp ρ L' cs cs'):Vw hp ρ L' (.ptr j o::cs) (.ptr j o::cs')
 | aptr {j:Nat} {cs cs':List AC} (h:ρ j=some j) (hl:L' j) (hr:Vw hp ρ L' cs cs'):Vw hp ρ L' (.aptr j::cs) (.aptr j::cs')
def VwB (hp:List AB) (ρ:Nat→Option Nat) (L':Nat→Prop) (i:Nat):AB→Prop
 | .row q e t xs=>(∃ j,ρ i=some j∧hp[j]? =some (.row q e t xs))∨(ρ i=none∧xs= [])
 | .cells q e cs'=> ∃ j cs,ρ i=some j∧hp[j]? =some (.cells q e cs)∧Vw hp ρ L' cs cs'
 | .map xs=> ∃ j,ρ i=some j∧hp[j]? =some (.map xs)
 | _=>False
def seen (ν:Nat→Value) (ρ:Nat→Option Nat) (i:Nat):Value:=match ρ i with
 | some j=>ν j
 | none=> .slice none 0 0
theorem Inv.view (I:Inv U0 ν tm hp w0 a w) (hU : ∀ k,U0 k→k<w0.heap.size) {ρ:Nat→Option Nat} {tm':List AV} {hp':List AB} (h1:tm'.length=tm.length)
 (h2 : ∀ i x',tm'[i]? =some x'→x'= .junk∨ ∃ cs cs',tm.getD i .junk= .val cs∧x'= .val cs'∧Vw hp ρ (lv hp') cs cs')
 (h3 : ∀ i b',hp'[i]? =some b'→isGone b'=false→VwB hp ρ (lv hp') i b')
 (h4 : ∀ i i' j,i≠i'→lv hp' i→lv hp' i'→ρ i=some j→ρ i'≠some j) (h5 : ∀ p∈w0.fx,ρ p.1=some p.1∧ ∃ b',hp'[p.1]? =some b'∧isFx b'=true):Inv U0 (seen ν ρ) tm' hp' w0 a w:=by
 have hsome : ∀ {i j:Nat},ρ i=some j→seen ν ρ i=ν j:=fun h=>by unfold seen;rw [h]
 have hnone : ∀ {i:Nat},ρ i=none→seen ν ρ i= .slice none 0 0:=fun h=>by unfold seen;rw [h]
 have hlive : ∀ {i j:Nat},lv hp' i→ρ i=some j→lv hp j:=fun {i j} ⟨b',q1,q2⟩ hr=>by
  have:=h3 i b' q1 q2
  cases b' with
  | row q e t xs =>
    rcases this with ⟨j',e1,e2⟩ | ⟨e1,_⟩
    · rw [hr] at e1;injection e1 with e1;subst e1;exact ⟨_,e2,rfl⟩
    · rw [hr] at e1;cases e1
  | cells q e cs =>
    obtain ⟨j',cs0,e1,e2,_⟩:=this
    rw [hr] at e1;injection e1 with e1;subst e1;exact ⟨_,e2,rfl⟩
  | map xs =>
    obtain ⟨j',e1,e2⟩:=this
    rw [hr] at e1;injection e1 with e1;subst e1;exact ⟨_,e2,rfl⟩
  | _=>exact this.elim
 have hun : ∀ k,Un U0 (seen ν ρ) (lv hp') k→Un U0 ν (lv hp) k:=fun k h=>by
  rcases h with h | ⟨i,hi,hb⟩
  · exact .inl h
  · cases hr:ρ i with
    | none=>rw [hnone hr] at hb;cases hb
    | some j=>rw [hsome hr] at hb;exact .inr ⟨j,hlive hi hr,hb⟩
 have mv:Move (Un U0 ν (lv hp)) w w (Un U0 (seen ν ρ) (lv hp')):=⟨Nat.le_refl _,fun _ _ _=>rfl,fun k _ h=>hun k h⟩
 have cells : ∀ {cs cs':List AC},Vw hp ρ (lv hp') cs cs'→ ∀ {vs:List Value},All2 (RelC U0 ν (lv hp) w) cs vs→All2 (RelC U0 (seen ν ρ) (lv hp') w) cs' vs:=by
  intro cs cs' h
  induction h with
  | nil=>intro vs hr;cases vs with
    | nil=>trivial
    | cons _ _=>exact hr.elim
  | @ty t x cs rest cs' ht hf hr hd ih =>
    intro vs hvs
    obtain ⟨q1,q2⟩:=toT_rel1 I (U:=Un U0 (seen ν ρ) (lv hp')) (fun k _ h=>hun k h) (fun j e' t' xs hj hb=>absurd hb (hf j e' t' xs hj)) ht hvs
    have:=(expl_rel t x q1).app (ih q2)
    rw [List.take_append_drop] at this
    exact this
  | @own i j cs cs' hρ hl hj hr ih =>
    intro vs hvs
    match vs,hvs with
    | v::vs,hvs=>exact ⟨⟨hl,by rw [hsome hρ];exact hvs.1.2⟩,ih hvs.2⟩
    | [],hvs=>exact hvs.elim
  | @nils i cs cs' hρ hl hr ih =>
    intro vs hvs
    match vs,hvs with
    | v::vs,hvs=>exact ⟨⟨hl,by rw [hnone hρ];exact hvs.1⟩,ih hvs.2⟩
    | [],hvs=>exact hvs.elim
  | @ptr j o cs cs' hρ hl hr ih =>
    intro vs hvs
    match vs,hvs with
    | v::vs,hvs =>
      obtain ⟨⟨_,g,e1,e2⟩,hvs2⟩:=hvs
      exact ⟨⟨hl,g,by rw [hsome hρ];exact e1,e2⟩,ih hvs2⟩
    | [],hvs=>exact hvs.elim
  | @aptr j cs cs' hρ hl hr ih =>
    intro vs hvs
    match vs,hvs with
    | v::vs,hvs =>
      obtain ⟨⟨_,g,n,c,e1,e2⟩,hvs2⟩:=hvs
      exact ⟨⟨hl,g,n,c,by rw [hsome hρ];exact e1,e2⟩,ih hvs2⟩
    | [],hvs=>exact hvs.elim
 refine ⟨I.size.trans h1.symm,fun i x' hx=> ?_,fun i b' q1 q2=> ?_,fun i i' hii hi hi' k hk hk'=> ?_,I.fr,fun p hp=>⟨(hsome (h5 p hp).1).trans (I.fx p hp).1,(h5 p hp).2⟩,I.defers⟩
 · rcases h2 i x' hx with rfl | ⟨cs,cs',e1,rfl,hv⟩
   · trivial
   · have hl:i<tm.length:=by rw [← h1];exact (List.getElem?_eq_some_iff.1 hx).1
     have hti:tm[i]? =some (.val cs):=by
      rw [List.getD_eq_getElem?_getD,List.getElem?_eq_getElem hl] at e1
      rw [List.getElem?_eq_getElem hl]
      exact congrArg some e1
     obtain ⟨vs,q1,q2⟩:=I.tm i _ hti
     exact ⟨vs,q1,cells hv q2⟩
 · have:=h3 i b' q1 q2
   cases b' with
   | row q e t xs =>
     rcases this with ⟨j,e1,e2⟩ | ⟨e1,e2⟩
     · have hB:=I.mem j _ e2 rfl
       obtain ⟨⟨inner,z1,z2⟩,z3⟩:=hB
       exact ⟨⟨inner,by rw [hsome e1];exact z1,z2.imp_ fun _ _ z=>z.move mv⟩,fun k hk=>z3 k (by rw [hsome e1] at hk;exact hk)⟩
     · subst e2
       exact ⟨⟨[],by rw [hnone e1];exact World.ownsRow_nil w _ _ _,Reps.none _ _⟩,fun k hk=>by rw [hnone e1] at hk;cases hk⟩
   | cells q e cs' =>
     obtain ⟨j,cs,e1,e2,hv⟩:=this
     obtain ⟨g,vs,z1,z2,z3,z4⟩:=I.mem j _ e2 rfl
     exact ⟨g,vs,by rw [hsome e1];exact z1,z2,z3,cells hv z4⟩
   | map xs =>
     obtain ⟨j,e1,e2⟩:=this
     obtain ⟨g,es,c,z1,z2,z3,z4⟩:=I.mem j _ e2 rfl
     exact ⟨g,es,c,by rw [hsome e1];exact z1,z2,z3,z4⟩
   | _=>exact this.elim
 · cases hr:ρ i with
   | none=>rw [hnone hr] at hk;cases hk
   | some j =>
     cases hr':ρ i' with
     | none=>rw [hnone hr'] at hk';cases hk'
     | some j' =>
       rw [hsome hr] at hk
       rw [hsome hr'] at hk'
       have hne:j≠j':=fun e=>h4 i i' j hii hi hi' hr (e▸hr')
       exact I.dis j j' hne (hlive hi hr) (hlive hi' hr') k hk hk'
theorem nodup_mem {l:List Nat} {a:Nat} :nodupB (a::l)=true→a ∉ l∧nodupB l=true:=by
 intro h
 simp only [nodupB,Bool.and_eq_true,Bool.not_eq_true',List.contains_eq_mem,decide_eq_false_iff_not] at h
 exact h
theorem roOf_mem : ∀ {l:List (Nat × Option Nat)},nodupB (l.map (·.1))=true→ ∀ p∈l,roOf l p.1=p.2
 | (i,s)::l,h,p,hp=>by
   obtain ⟨h1,h2⟩:=nodup_mem h
   rcases List.mem_cons.1 hp with rfl | hp
   · simp [roOf]
   · have:i≠p.1:=fun e=>h1 (e▸List.mem_map.2 ⟨p,hp,rfl⟩)
     simp only [roOf,if_neg this]
     exact roOf_mem h2 p hp
theorem srcs_mem : ∀ {l:List (Nat × Option Nat)} {i j:Nat},(i,some j)∈l→j∈srcs l
 | (a,s)::l,i,j,h=>by
   rcases List.mem_cons.1 h with e | h'
   · injection e with _ e2
     subst e2
     exact List.mem_cons_self
   · cases s with
     | none=>exact srcs_mem (l:=l) h'
     | some k=>exact List.mem_cons_of_mem _ (srcs_mem (l:=l) h')
theorem srcs_inj : ∀ {l:List (Nat × Option Nat)},nodupB (srcs l)=true→ ∀ {i i' j:Nat},(i,some j)∈l→(i',some j)∈l→i=i'
 | (a,none)::l,h,i,i',j,h1,h2=>by
   have h1:=(List.mem_cons.1 h1).resolve_left (fun e=>by cases e)
   have h2:=(List.mem_cons.1 h2).resolve_left (fun e=>by cases e)
   exact srcs_inj (l:=l) h h1 h2
 | (a,some k)::l,h,i,i',j,h1,h2=>by
   obtain ⟨hk,hl⟩:=nodup_mem (show nodupB (k::srcs l)=true from h)
   rcases List.mem_cons.1 h1 with e1 | g1<;>rcases List.mem_cons.1 h2 with e2 | g2
   · injection e1 with e1 _;injection e2 with e2 _;rw [e1,e2]
   · injection e1 with _ e1;injection e1 with e1;subst e1;exact absurd (srcs_mem (l:=l) g2) hk
   · injection e2 with _ e2;injection e2 with e2;subst e2;exact absurd (srcs_mem (l:=l) g1) hk
   · exact srcs_inj hl g1 g2
theorem rdC_vw {ρ:Nat→Option Nat} {L':Nat→Prop} : ∀ {fs:List CK} {cs:List AC} {x:CT fs},rdC hp fs cs=some x→(∀ p∈roC fs cs,ρ p.1=p.2∧L' p.1)→(∀ p∈alC fs cs,ρ p.1=p.2∧L' p.1)→(∀ j∈ptrC fs,ρ j=some j∧L' j)→(∀ j e t xs,AC.own j∈tyC fs cs→hp[j]? ≠some (.row .mine e t xs)) →
 Vw hp ρ L' cs (wrC fs x)∧(∀ p∈blC fs x,VwB hp ρ L' p.1 p.2∧isGone p.2=false∧ ∃ s,(p.1,s)∈roC fs cs)∧ ∀ p∈roC fs cs,∃ b,(p.1,b)∈blC fs x
 | [],[],x,h,_,_,_,_=>⟨.nil,fun p hp=>by simp [blC] at hp,fun p hp=>by simp [roC] at hp⟩
 | [],_::_,x,h,_,_,_,_=>by simp [rdC] at h
 | .ty t::l,cs,x,h,h1,hA,h2,h3=>by
   simp only [rdC] at h
   split at h
   · rename_i x1 cs1 hx
     split at h
     · rename_i y hy
       injection h with h
       subst h
       obtain ⟨hd,_⟩:=toT_len hx
       have hd':=hd
       subst hd
       obtain ⟨q1,q2,q3⟩:=rdC_vw hy (fun p hp=>h1 p (by simpa [roC] using hp)) (fun p hp=>hA p (by simpa [alC] using hp)) h2 (fun j e t' xs hj=>h3 j e t' xs (List.mem_append_right _ hj))
       exact ⟨.ty hx (fun j e t' xs hj=>h3 j e t' xs (List.mem_append_left _ hj)) q1 rfl,by simpa [blC,roC] using q2,by simpa [blC,roC] using q3⟩
     · cases h
   · cases h
 | .own _ id e t::l,[],x,h,_,_,_,_=>by simp [rdC] at h
 | .al id::l,[],x,h,_,_,_,_=>by simp [rdC] at h
 | .ptr j o::l,[],x,h,_,_,_,_=>by simp [rdC] at h
 | .aptr j::l,[],x,h,_,_,_,_=>by simp [rdC] at h
 | .map j::l,[],x,h,_,_,_,_=>by simp [rdC] at h
 | .own lq id e t::l,c::cs,x,h,h1,hA,h2,h3=>by
   cases c with
   | nils =>
     simp only [rdC] at h
     split at h
     · cases h
     split at h
     · rename_i y hy
       injection h with h
       subst h
       obtain ⟨q1,q2,q3⟩:=rdC_vw hy (fun p hp=>h1 p (List.mem_cons_of_mem _ hp)) hA h2 h3
       have hh:=h1 (id,none) List.mem_cons_self
       refine ⟨.nils hh.1 hh.2 q1,fun p hp=> ?_,fun p hp=> ?_⟩
       · rcases List.mem_cons.1 hp with rfl | hp
         · exact ⟨.inr ⟨hh.1,rfl⟩,rfl,none,List.mem_cons_self⟩
         · obtain ⟨z1,z2,s,z3⟩:=q2 p hp
           exact ⟨z1,z2,s,List.mem_cons_of_mem _ z3⟩
       · rcases List.mem_cons.1 hp with rfl | hp
         · exact ⟨_,List.mem_cons_self⟩
         · obtain ⟨b,z⟩:=q3 p hp
           exact ⟨b,List.mem_cons_of_mem _ z⟩
     · cases h
   | own j =>
     simp only [rdC] at h
     split at h
     · rename_i lq' e' t' xs hb
       split at h
       · rename_i q
         obtain ⟨rfl,rfl⟩:=q
         split at h
         rotate_left
         · cases h
         rename_i q
         obtain ⟨rfl,_⟩:=q
         split at h
         · rename_i y hy
           injection h with h
           subst h
           obtain ⟨q1,q2,q3⟩:=rdC_vw hy (fun p hp=>h1 p (List.mem_cons_of_mem _ hp)) hA h2 h3
           have hh:=h1 (id,some j) List.mem_cons_self
           refine ⟨.own hh.1 hh.2 ⟨_,hb,rfl⟩ q1,fun p hp=> ?_,fun p hp=> ?_⟩
           · rcases List.mem_cons.1 hp with rfl | hp
             · exact ⟨.inl ⟨j,hh.1,hb⟩,rfl,_,List.mem_cons_self⟩
             · obtain ⟨z1,z2,s,z3⟩:=q2 p hp
               exact ⟨z1,z2,s,List.mem_cons_of_mem _ z3⟩
           · rcases List.mem_cons.1 hp with rfl | hp
             · exact ⟨_,List.mem_cons_self⟩
             · obtain ⟨b,z⟩:=q3 p hp
               exact ⟨b,List.mem_cons_of_mem _ z⟩
         · cases h
       · cases h
     · cases h
   | _=>simp [rdC] at h
 | .al id::l,c::cs,x,h,h1,hA,h2,h3=>by
   cases c with
   | nils =>
     simp only [rdC] at h
     obtain ⟨q1,q2,q3⟩:=rdC_vw h (fun p hp=>h1 p (by simpa [roC] using hp)) (fun p hp=>hA p (List.mem_cons_of_mem _ hp)) h2 h3
     have hh:=hA (id,none) List.mem_cons_self
     exact ⟨.nils hh.1 hh.2 q1,by simpa [blC,roC] using q2,by simpa [blC,roC] using q3⟩
   | own j =>
     simp only [rdC] at h
     split at h
     · rename_i lq e' t' xs hb
       obtain ⟨q1,q2,q3⟩:=rdC_vw h (fun p hp=>h1 p (by simpa [roC] using hp)) (fun p hp=>hA p (List.mem_cons_of_mem _ hp)) h2 h3
       have hh:=hA (id,some j) List.mem_cons_self
       exact ⟨.own hh.1 hh.2 ⟨_,hb,rfl⟩ q1,by simpa [blC,roC] using q2,by simpa [blC,roC] using q3⟩
     · rename_i xs hb
       obtain ⟨q1,q2,q3⟩:=rdC_vw h (fun p hp=>h1 p (by simpa [roC] using hp)) (fun p hp=>hA p (List.mem_cons_of_mem _ hp)) h2 h3
       have hh:=hA (id,some j) List.mem_cons_self
       exact ⟨.own hh.1 hh.2 ⟨_,hb,rfl⟩ q1,by simpa [blC,roC] using q2,by simpa [blC,roC] using q3⟩
     · cases h
   | _=>simp [rdC] at h
 | .map id::l,c::cs,x,h,h1,hA,h2,h3=>by
   cases c with
   | own j =>
     simp only [rdC] at h
     split at h
     · rename_i xs hb
       split at h
       · rename_i y hy
         injection h with h
         subst h
         obtain ⟨q1,q2,q3⟩:=rdC_vw hy (fun p hp=>h1 p (List.mem_cons_of_mem _ hp)) (fun p hp=>hA p (by simpa [alC] using hp)) h2 h3
         have hh:=h1 (id,some j) List.mem_cons_self
         refine ⟨.own hh.1 hh.2 ⟨_,hb,rfl⟩ q1,fun p hp=> ?_,fun p hp=> ?_⟩
         · rcases List.mem_cons.1 hp with rfl | hp
           · exact ⟨⟨j,hh.1,hb⟩,rfl,_,List.mem_cons_self⟩
           · obtain ⟨z1,z2,s,z3⟩:=q2 p hp
             exact ⟨z1,z2,s,List.mem_cons_of_mem _ z3⟩
         · rcases List.mem_cons.1 hp with rfl | hp
           · exact ⟨_,List.mem_cons_self⟩
           · obtain ⟨b,z⟩:=q3 p hp
             exact ⟨b,List.mem_cons_of_mem _ z⟩
       · cases h
     · cases h
   | _=>simp [rdC] at h
 | .aptr j::l,c::cs,x,h,h1,hA,h2,h3=>by
   cases c with
   | aptr j' =>
     simp only [rdC] at h
     split at h
     · rename_i q
       subst q
       obtain ⟨q1,q2,q3⟩:=rdC_vw h (fun p hp=>h1 p (by simpa [roC] using hp)) (fun p hp=>hA p (by simpa [alC] using hp)) (fun j hj=>h2 j (List.mem_cons_of_mem _ hj)) h3
       have hh:=h2 _ List.mem_cons_self
       exact ⟨.aptr hh.1 hh.2 q1,by simpa [blC,roC] using q2,by simpa [blC,roC] using q3⟩
     · cases h
   | _=>simp [rdC] at h
 | .ptr j o::l,c::cs,x,h,h1,hA,h2,h3=>by
   cases c with
   | ptr j' o' =>
     simp only [rdC] at h
     split at h
     · rename_i q
       obtain ⟨rfl,rfl⟩:=q
       obtain ⟨q1,q2,q3⟩:=rdC_vw h (fun p hp=>h1 p (by simpa [roC] using hp)) (fun p hp=>hA p (by simpa [alC] using hp)) (fun j hj=>h2 j (List.mem_cons_of_mem _ hj)) h3
       have hh:=h2 _ List.mem_cons_self
       exact ⟨.ptr hh.1 hh.2 q1,by simpa [blC,roC] using q2,by simpa [blC,roC] using q3⟩
     · cases h
   | _=>simp [rdC] at h
theorem rdS_vw {ρ:Nat→Option Nat} {L':Nat→Prop} : ∀ {sl:List Slot} {x:TS sl},rdS tm hp sl=some x→(∀ p∈roS tm hp sl,ρ p.1=p.2∧L' p.1)→(∀ p∈alS tm hp sl,ρ p.1=p.2∧L' p.1)→(∀ j∈ptrS sl,ρ j=some j∧L' j)→(∀ j e t xs,AC.own j∈tyS tm hp sl→hp[j]? ≠some (.row .mine e t xs)) →
 (∀ tm1:List AV,(∀ i x',tm1[i]? =some x'→x'= .junk∨ ∃ cs cs',tm.getD i .junk= .val cs∧x'= .val cs'∧Vw hp ρ L' cs cs')→ ∀ i x',(wrT sl x tm1)[i]? =some x'→x'= .junk∨ ∃ cs cs',tm.getD i .junk= .val cs∧x'= .val cs'∧Vw hp ρ L' cs cs') ∧
   (∀ p∈blS sl x,VwB hp ρ L' p.1 p.2∧isGone p.2=false∧ ∃ s,(p.1,s)∈roS tm hp sl)∧ ∀ p∈roS tm hp sl,∃ b,(p.1,b)∈blS sl x
 | [],x,h,_,_,_,_=>⟨fun _ h=>h,fun p hp=>by simp [blS] at hp,fun p hp=>by simp [roS] at hp⟩
 | .tmp t fs::l,x,h,h1,hA,h2,h3=>by
   simp only [rdS] at h
   split at h
   · rename_i hv
     split at h
     · rename_i x1 hx
       split at h
       · rename_i y hy
         injection h with h
         subst h
         obtain ⟨q1,q2,q3⟩:=rdC_vw hx (fun p hp=>h1 p (List.mem_append_left _ hp)) (fun p hp=>hA p (List.mem_append_left _ hp)) (fun j hj=>h2 j (List.mem_append_left _ hj)) (fun j e t xs hj=>h3 j e t xs (List.mem_append_left _ hj))
         obtain ⟨z1,z2,z3⟩:=rdS_vw hy (fun p hp=>h1 p (List.mem_append_right _ hp)) (fun p hp=>hA p (List.mem_append_right _ hp)) (fun j hj=>h2 j (List.mem_append_right _ hj)) (fun j e t xs hj=>h3 j e t xs (List.mem_append_right _ hj))
         refine ⟨fun tm1 ht=>z1 _ fun i x' hi=> ?_,fun p hp=> ?_,fun p hp=> ?_⟩
         · rw [List.getElem?_set] at hi
           split at hi
           · rename_i e
             subst e
             split at hi
             · injection hi with hi
               subst hi
               unfold isVal at hv
               split at hv
               · rename_i cs hc
                 refine .inr ⟨cs,_,hc,rfl, ?_⟩
                 have:cellsAt tm hp (.tmp t fs)=cs:=by simp only [cellsAt,hc,cellsOf]
                 rw [this] at q1
                 exact q1
               · cases hv
             · cases hi
           · exact ht i x' hi
         · rcases List.mem_append.1 hp with hp | hp
           · obtain ⟨y1,y2,s,y3⟩:=q2 p hp
             exact ⟨y1,y2,s,List.mem_append_left _ y3⟩
           · obtain ⟨y1,y2,s,y3⟩:=z2 p hp
             exact ⟨y1,y2,s,List.mem_append_right _ y3⟩
         · rcases List.mem_append.1 hp with hp | hp
           · obtain ⟨b,y⟩:=q3 p hp
             exact ⟨b,List.mem_append_left _ y⟩
           · obtain ⟨b,y⟩:=z3 p hp
             exact ⟨b,List.mem_append_right _ y⟩
       · cases h
     · cases h
   · cases h
 | .arr j e t::l,x,h,h1,hA,h2,h3=>by
   simp only [rdS] at h
   split at h
   · rename_i e' t' xs hb
     split at h
     · rename_i q
       obtain ⟨rfl,rfl⟩:=q
       split at h
       · rename_i y hy
         injection h with h
         subst h
         obtain ⟨z1,z2,z3⟩:=rdS_vw hy (fun p hp=>h1 p (List.mem_cons_of_mem _ hp)) hA (fun i hi=>h2 i hi) h3
         have hj:=h1 (j,some j) List.mem_cons_self
         refine ⟨z1,fun p hp=> ?_,fun p hp=> ?_⟩
         · rcases List.mem_cons.1 hp with rfl | hp
           · exact ⟨.inl ⟨j,hj.1,hb⟩,rfl,some j,List.mem_cons_self⟩
           · obtain ⟨y1,y2,s,y3⟩:=z2 p hp
             exact ⟨y1,y2,s,List.mem_cons_of_mem _ y3⟩
         · rcases List.mem_cons.1 hp with rfl | hp
           · exact ⟨_,List.mem_cons_self⟩
           · obtain ⟨b,y⟩:=z3 p hp
             exact ⟨b,List.mem_cons_of_mem _ y⟩
       · cases h
     · cases h
   · cases h
 | .blk j lq e fs::l,x,h,h1,hA,h2,h3=>by
   simp only [rdS] at h
   split at h
   · rename_i hv
     split at h
     · rename_i x1 hx
       split at h
       · rename_i y hy
         injection h with h
         subst h
         have h1' : ∀ p∈roC fs (cellsAt tm hp (.blk j lq e fs))++roS tm hp l,ρ p.1=p.2∧L' p.1:=fun p hp=>h1 p (List.mem_cons_of_mem _ hp)
         obtain ⟨q1,q2,q3⟩:=rdC_vw hx (fun p hp=>h1' p (List.mem_append_left _ hp)) (fun p hp=>hA p (List.mem_append_left _ hp)) (fun j hj=>h2 j (List.mem_append_left _ hj)) (fun j e t xs hj=>h3 j e t xs (List.mem_append_left _ hj))
         obtain ⟨z1,z2,z3⟩:=rdS_vw hy (fun p hp=>h1' p (List.mem_append_right _ hp)) (fun p hp=>hA p (List.mem_append_right _ hp)) (fun j hj=>h2 j (List.mem_append_right _ hj)) (fun j e t xs hj=>h3 j e t xs (List.mem_append_right _ hj))
         have hj:=h1 (j,some j) List.mem_cons_self
         refine ⟨fun tm1 ht=>z1 tm1 ht,fun p hp=> ?_,fun p hp=> ?_⟩
         · rcases List.mem_cons.1 hp with rfl | hp
           · clear hp
             refine ⟨?_,rfl,some j,List.mem_cons_self⟩
             unfold isBlk at hv
             split at hv
             · rename_i lq' e' cs hb
               obtain ⟨rfl,rfl⟩:lq'=lq∧e'=e:=by simpa using hv
               have:cellsAt tm hp (.blk j lq' e' fs)=cs:=by simp only [cellsAt,hb]
               rw [this] at q1
               exact ⟨j,cs,hj.1,hb,q1⟩
             · cases hv
           · rcases List.mem_append.1 hp with hp | hp
             · obtain ⟨y1,y2,s,y3⟩:=q2 p hp
               exact ⟨y1,y2,s,List.mem_cons_of_mem _ (List.mem_append_left _ y3)⟩
             · obtain ⟨y1,y2,s,y3⟩:=z2 p hp
               exact ⟨y1,y2,s,List.mem_cons_of_mem _ (List.mem_append_right _ y3)⟩
         · rcases List.mem_cons.1 hp with rfl | hp
           · exact ⟨_,List.mem_cons_self⟩
           · rcases List.mem_append.1 hp with hp | hp
             · obtain ⟨b,y⟩:=q3 p hp
               exact ⟨b,List.mem_cons_of_mem _ (List.mem_append_left _ y)⟩
             · obtain ⟨b,y⟩:=z3 p hp
               exact ⟨b,List.mem_cons_of_mem _ (List.mem_append_right _ y)⟩
       · cases h
     · cases h
   · cases h
theorem chB_in : ∀ {l:List (Nat × AB)} {i:Nat} {b:AB},chB l i=some b→(i,b)∈l
 | (j,c)::l,i,b,h=>by
   unfold chB at h
   split at h
   · rename_i e;injection h with h;subst e h;exact List.mem_cons_self
   · exact List.mem_cons_of_mem _ (chB_in h)
theorem chB_some : ∀ {l:List (Nat × AB)} {i:Nat} {b:AB},(i,b)∈l→ ∃ c,chB l i=some c
 | (j,c)::l,i,b,h=>by
   unfold chB
   by_cases e:j=i
   · exact ⟨c,if_pos e⟩
   · rw [if_neg e]
     exact chB_some ((List.mem_cons.1 h).resolve_left fun z=>e (by injection z with z _;exact z.symm))
theorem len_wrT : ∀ {sl:List Slot} {x:TS sl} {tm:List AV},(wrT sl x tm).length=tm.length
 | [],_,_=>rfl
 | .tmp t fs::l,(x,y),tm=>by simp only [wrT,len_wrT (sl:=l),List.length_set]
 | .blk _ _ _ _::l,(x,y),tm=>len_wrT (sl:=l)
 | .arr _ _ _::l,(x,y),tm=>len_wrT (sl:=l)
theorem cellsAt_frz {l:List (Nat × AB)} (h:FzOk hp l) (s:Slot):cellsAt tm (chs l hp) s=cellsAt tm hp s:=by
 cases s with
 | tmp t fs=>rfl
 | arr j e t=>rfl
 | blk j lq e fs =>
   simp only [cellsAt]
   rcases chs_get h j with q | ⟨e',t',xs',q1,q2,_⟩
   · rw [q]
   · rw [q1,q2]
theorem tyS_frz {l:List (Nat × AB)} (h:FzOk hp l) : ∀ (sl:List Slot),tyS tm (chs l hp) sl=tyS tm hp sl
 | []=>rfl
 | .tmp t fs::sl=>by simp only [tyS,cellsAt_frz h,tyS_frz h sl]
 | .blk j lq e fs::sl=>by simp only [tyS,cellsAt_frz h,tyS_frz h sl]
 | .arr j e t::sl=>by simp only [tyS,tyS_frz h sl]
theorem blk_src : ∀ {sl:List Slot} {j:Nat},j∈blkS sl→(j,some j)∈roS tm hp sl
 | .tmp t fs::l,j,h=>List.mem_append_right _ (blk_src (sl:=l) h)
 | .blk i lq e fs::l,j,h=>by
   rcases List.mem_cons.1 h with rfl | h
   · exact List.mem_cons_self
   · exact List.mem_cons_of_mem _ (List.mem_append_right _ (blk_src h))
 | .arr i e t::l,j,h=>by
   rcases List.mem_cons.1 h with rfl | h
   · exact List.mem_cons_self
   · exact List.mem_cons_of_mem _ (blk_src h)
theorem inRo_mem : ∀ {l:List (Nat × Option Nat)} {j:Nat} {u:Option Nat},inRo l j u=true→(j,u)∈l
 | (i,s)::l,j,u,h=>by
   simp only [inRo,Bool.or_eq_true,Bool.and_eq_true,beq_iff_eq] at h
   rcases h with ⟨rfl,rfl⟩ | h
   · exact List.mem_cons_self
   · exact List.mem_cons_of_mem _ (inRo_mem h)
theorem Inv.cut (I:Inv U0 ν tm hp w0 a w) (hU : ∀ k,U0 k→k<w0.heap.size) {R:Type} {r:R} {N:CN} {k:Nat} {sl:List Slot} {g:Nat→TS sl→Option R} (hF : ∀ p∈w0.fx,p.1∈N.f) (h:(atCut N sl g k tm hp).run=some r) : ∃ x ν',g k x=some r∧Inv U0 ν' (cutT N sl x) (cutH N sl x) w0 a w:=by
 unfold atCut at h
 rw [fChs_eq] at h
 split at h
 · rename_i hfit
   split at h
   · rename_i x hx
     obtain ⟨y,hy,he⟩:=Tree.cll_run h
     have he:some y=some r:=he
     injection he with he
     subst he
     have hfz:=fzs_ok (hp:=hp) (tyS tm hp sl)
     obtain ⟨ν',I'⟩:=I.freezes hU hfz
     generalize hhp:chs (fzs hp (tyS tm hp sl)) hp=hp' at *
     simp only [fitB,Bool.and_eq_true,beq_iff_eq,List.all_eq_true,decide_eq_true_eq,List.contains_eq_mem] at hfit
     obtain ⟨⟨⟨⟨⟨⟨f1,f6⟩,f7⟩,f2⟩,f3⟩,f4⟩,f5⟩:=hfit
     have hno : ∀ j e t xs,AC.own j∈tyS tm hp' sl→hp'[j]? ≠some (.row .mine e t xs):=fun j e t xs hj hb=>by
      have hj':AC.own j∈tyS tm hp sl:=by rw [← hhp,tyS_frz hfz] at hj;exact hj
      have hi:inFz (fzs hp (tyS tm hp sl)) j=true:=by
       rcases chs_get hfz j with q | ⟨e',t',xs',q1,q2,q3⟩
       · rw [hhp,hb] at q
         exact fzs_in hj' q.symm
       · exact q3
      obtain ⟨_,_,_,z⟩:=chs_has hfz hi
      rw [hhp,hb] at z
      cases z
     have hro:=roOf_mem f2
     have hcut : ∀ i,i<N.m→(cutH N sl x)[i]? =some (match chB (blS sl x) i with
      | some b=>b
      | none=> .gone):=fun i hi=>by
      unfold cutH
      rw [chs_at (by simpa using hi)]
      cases chB (blS sl x) i with
      | some b=>rfl
      | none=>simp [List.getD_eq_getElem?_getD,hi]
     have hge : ∀ i,N.m≤i→(cutH N sl x)[i]? =none:=fun i hi=>List.getElem?_eq_none (by unfold cutH;rw [len_chs];simpa using hi)
     obtain ⟨_,b1,b2⟩:=rdS_vw (ρ:=roOf (roS tm hp' sl)) (L':=fun _=>True) hx (fun p hp=>⟨hro p hp,trivial⟩) (fun p hp=>⟨hro p (inRo_mem (f6 p hp)),trivial⟩) (fun j hj=>⟨hro (j,some j) (blk_src (f5 j hj)),trivial⟩) hno
     have hlv : ∀ p∈roS tm hp' sl,lv (cutH N sl x) p.1:=fun p hp=>by
      obtain ⟨b,hb⟩:=b2 p hp
      obtain ⟨c,hc⟩:=chB_some hb
      refine ⟨c,by rw [hcut p.1 (f4 p hp),hc],(b1 (p.1,c) (chB_in hc)).2.1⟩
     obtain ⟨c0,c1,c2⟩:=rdS_vw (ρ:=roOf (roS tm hp' sl)) (L':=lv (cutH N sl x)) hx (fun p hp=>⟨hro p hp,hlv p hp⟩) (fun p hp=>⟨hro p (inRo_mem (f6 p hp)),hlv p (inRo_mem (f6 p hp))⟩) (fun j hj=>⟨hro (j,some j) (blk_src (f5 j hj)),hlv (j,some j) (blk_src (f5 j hj))⟩) hno
     have hin : ∀ i,lv (cutH N sl x) i→ ∃ s,(i,s)∈roS tm hp' sl:=fun i ⟨b,h1,h2⟩=>by
      rcases Nat.lt_or_ge i N.m with hi | hi
      · rw [hcut i hi] at h1
        cases hc:chB (blS sl x) i with
        | none=>rw [hc] at h1;injection h1 with h1;subst h1;cases h2
        | some c=>exact (c1 (i,c) (chB_in hc)).2.2
      · rw [hge i hi] at h1;cases h1
     refine ⟨x,seen ν' (roOf (roS tm hp' sl)),hy,I'.view hU (by unfold cutT;rw [len_wrT];simp [f1]) (fun i x' hi=> ?_) (fun i b' h1 h2=> ?_) (fun i i' j hii hi hi' h1 h2=> ?_) (fun p hp=> ?_)⟩
     · refine c0 _ (fun i x' hi=> .inl ?_) i x' hi
       rw [List.getElem?_replicate] at hi
       split at hi
       · injection hi with hi;exact hi.symm
       · cases hi
     · rcases Nat.lt_or_ge i N.m with hi | hi
       · rw [hcut i hi] at h1
         cases hc:chB (blS sl x) i with
         | none=>rw [hc] at h1;injection h1 with h1;subst h1;cases h2
         | some c =>
           rw [hc] at h1;injection h1 with h1;subst h1
           exact (c1 (i,c) (chB_in hc)).1
       · rw [hge i hi] at h1;cases h1
     · obtain ⟨s,hs⟩:=hin i hi
       obtain ⟨s',hs'⟩:=hin i' hi'
       have e1:=hro _ hs
       have e2:=hro _ hs'
       rw [h1] at e1
       rw [h2] at e2
       have e1:some j=s:=e1
       have e2:some j=s':=e2
       subst e1 e2
       exact hii (srcs_inj f3 hs hs')
     · have hr:=inRo_mem (f7 p.1 (hF p hp))
       have e1:=hro _ hr
       obtain ⟨b',h1,h2⟩:=hlv _ hr
       refine ⟨e1,b',h1, ?_⟩
       obtain ⟨_,b0,z1,z2⟩:=I'.fx p hp
       have hv:VwB hp' (roOf (roS tm hp' sl)) (lv (cutH N sl x)) p.1 b':=by
        rw [hcut p.1 (f4 _ hr)] at h1
        cases hc:chB (blS sl x) p.1 with
        | none=>rw [hc] at h1;injection h1 with h1;subst h1;cases h2
        | some c=>rw [hc] at h1;injection h1 with h1;subst h1;exact (c1 (p.1,c) (chB_in hc)).1
       have e1:roOf (roS tm hp' sl) p.1=some p.1:=e1
       cases b' with
       | row q e t xs =>
         rcases hv with ⟨j,q1,q2⟩ | ⟨q1,_⟩
         · rw [e1] at q1;injection q1 with q1;subst q1
           rw [z1] at q2;injection q2 with q2;subst q2
           exact z2
         · rw [e1] at q1;cases q1
       | cells q e cs =>
         obtain ⟨j,cs0,q1,q2,_⟩:=hv
         rw [e1] at q1;injection q1 with q1;subst q1
         rw [z1] at q2;injection q2 with q2;subst q2
         cases q<;>exact z2
       | map xs =>
         obtain ⟨j,q1,q2⟩:=hv
         rw [e1] at q1;injection q1 with q1;subst q1
         rw [z1] at q2;injection q2 with q2;subst q2
         exact z2
       | _=>exact hv.elim
   · cases h
 · cases h
end
end Go.Proofs.YtjocbnjpjihpnaaGreatW.Abs

end
section
namespace Go.Proofs.YtjocbnjpjihpnaaGreatW.Abs
open Go.RowKit Go.Proofs.YtjocbnjpjihpnaaGreatW.PrintWords Go.Proofs.YtjocbnjpjihpnaaGreatW.PrintLast Go.Proofs.YtjocbnjpjihpnaaGreatW.PrintMore
set_option linter.unusedVariables false
set_option linter.unusedSectionVars false
set_option linter.unusedSimpArgs false

inductive Ex where
 | normal | ret | exit (id:Nat)
def loops:Code→Nat
 | .seq a b=>loops a+loops b
 | .cond _ x y=>loops x+loops y
 | .block _ b=>loops b
 | .loop c=>loops c+1
 | .scope c=>loops c
 | _=>0
abbrev KontT (R:Type):=Nat→Ex→List AV→List AB→Tree R
structure Cut (R:Type) where
 sl:List Slot
 g:Nat→TS sl→Option R
structure Cuts (R:Type) where
 N:CN
 lp:Nat→Option (Cut R)
 rb:Nat→Option (Cut R)
 ra:Nat→Option (Cut R)
def lookC {R:Type} :List (Nat × Cut R)→Nat→Option (Cut R)
 | [],_=>none
 | (u,c)::l,i=>if i=u then some c else lookC l i
section
variable {R:Type}
def Cut.go (N:CN) (c:Cut R) (k:Nat) (tm:List AV) (hp:List AB):Tree R:=atCut N c.sl c.g k tm hp
def KseqT (d:KontT R→Nat→List AV→List AB→Tree R) (K:KontT R):KontT R:=fun k e tm hp=>match e with
 | .normal=>d K k tm hp
 | e=>K k e tm hp
def inB (id:Nat):Ex→Ex
 | .exit j=>if j=id then .normal else .exit j
 | e=>e
def KblkT (id:Nat) (K:KontT R):KontT R:=fun k e tm hp=>K k (inB id e) tm hp
def KloopT (N:CN) (c:Cut R) (K:KontT R):KontT R:=fun k e tm hp=>match e with
 | .normal=>c.go N k tm hp
 | e=>K k e tm hp
noncomputable def regD (Θ:Tab) (S:FuncId→Option FE) (Bt:Nat→List Nat) (id:Nat) (ops:Array Oper) (draw:Bool) (K:KontT R) (k:Nat) (tm:List AV) (hp:List AB):Tree R :=
 if draw=true then denAny Θ S k ops (Bt id) ops.toList 0 [] tm hp (K k .normal) else denOps Θ S k ops ops.toList tm hp (K k .normal)
def behind (C:Cuts R) (id:Nat) (K:KontT R):KontT R:=match C.ra id with
 | some ct=>KloopT C.N ct K
 | none=>K
noncomputable def den (Θ:Tab) (S:FuncId→Option FE) (Bt:Nat→List Nat) (C:Cuts R) (c:Code):Nat→KontT R→Nat→List AV→List AB→Tree R :=
 Code.rec (motive:=fun _=>Nat→KontT R→Nat→List AV→List AB→Tree R)
  (fun _ K k tm hp=>K k .normal tm hp)
  (fun id ops draw _ K k tm hp=>match C.rb id with
    | some ct=>ct.go C.N k tm hp
    | none=>regD Θ S Bt id ops draw (behind C id K) k tm hp)
  (fun a _ da db n K k tm hp=>da n (KseqT (db (n+loops a)) K) k tm hp)
  (fun c x _ dx dy n K k tm hp=>match opnd tm c with
    | .val [.ro .bool b]=>Tree.tst ((b:Bool)=true) (dx n K k tm hp) (dy (n+loops x) K k tm hp)
    | _=> .non)
  (fun id _ db n K k tm hp=>db n (KblkT id K) k tm hp)
  (fun _ _ n _ k tm hp=>match C.lp n with
    | some ct=>ct.go C.N k tm hp
    | none=> .non)
  (fun _ _ _ _ _ _ _ _ _ _ _=> .non)
  (fun id _ K k tm hp=>K k (.exit id) tm hp)
  (fun _ db n K k tm hp=>db n K k tm hp)
  (fun _ _ K k tm hp=>K k .normal tm hp)
  (fun _ _ _ _ _ _=> .non)
  (fun _ K k tm hp=>K k .ret tm hp)
  (fun _ _ _ _ _ _=> .non) c
def storesB (ops:Array Oper):Bool:=ops.all fun o=>match o.op with
 | .store .. =>o.dst.isNone
 | _=>true
def codeB (Bt:Nat→List Nat):Code→Bool
 | .seq a b=>codeB Bt a&&codeB Bt b
 | .cond _ x y=>codeB Bt x&&codeB Bt y
 | .block _ b=>codeB Bt b
 | .scope b=>codeB Bt b
 | .loop c=>codeB Bt c
 | .region id ops draw=>storesB ops&&(!draw || regB ops (Bt id))
 | _=>true
def ObD (C:Cuts R) (ct:Cut R) (D:Nat→List AV→List AB→Tree R):Prop:= ∀ k x r,ct.g k x=some r→ ∃ k',k'≤k∧(D k' (cutT C.N ct.sl x) (cutH C.N ct.sl x)).run=some r
def obA (C:Cuts R) (id:Nat) (K:KontT R) (q:Prop):Prop:=match C.ra id with
 | some ct=>ObD C ct (fun k=>K k .normal)∧q
 | none=>q
theorem obA_last {C:Cuts R} {id:Nat} {K:KontT R} {q:Prop} (h:obA C id K q):q:=by
 unfold obA at h
 split at h
 · exact h.2
 · exact h
def ObL (C:Cuts R) (ct:Cut R) (D:Nat→List AV→List AB→Tree R):Prop:= ∀ k x r,ct.g k x=some r→ ∃ k',k'<k∧(D k' (cutT C.N ct.sl x) (cutH C.N ct.sl x)).run=some r
noncomputable def obs (Θ:Tab) (S:FuncId→Option FE) (Bt:Nat→List Nat) (C:Cuts R) (c:Code):Nat→KontT R→Prop→Prop :=
 Code.rec (motive:=fun _=>Nat→KontT R→Prop→Prop)
  (fun _ _ q=>q)
  (fun id ops draw _ K q=>match C.rb id with
    | some ct=>ObD C ct (regD Θ S Bt id ops draw (behind C id K))∧obA C id K q
    | none=>obA C id K q)
  (fun a b da db n K q=>da n (KseqT (den Θ S Bt C b (n+loops a)) K) (db (n+loops a) K q))
  (fun _ x _ dx dy n K q=>dx n K (dy (n+loops x) K q))
  (fun id _ db n K q=>db n (KblkT id K) q)
  (fun b db n K q=>match C.lp n with
    | some ct=>ObL C ct (den Θ S Bt C b (n+1) (KloopT C.N ct K))∧db (n+1) (KloopT C.N ct K) q
    | none=>db (n+1) K q)
  (fun _ _ _ _ _ _ _ _ q=>q)
  (fun _ _ _ q=>q)
  (fun _ db n K q=>db n K q)
  (fun _ _ _ q=>q)
  (fun _ _ _ q=>q)
  (fun _ _ q=>q)
  (fun _ _ _ q=>q) c
theorem obs_last {Θ:Tab} {S:FuncId→Option FE} {Bt:Nat→List Nat} {C:Cuts R} : ∀ (c:Code) (n:Nat) (K:KontT R) (q:Prop),obs Θ S Bt C c n K q→q
 | .skip,_,_,_,h=>h
 | .region id ops draw,n,K,q,h=>by
   change (match C.rb id with
    | some ct=>ObD C ct (regD Θ S Bt id ops draw (behind C id K))∧obA C id K q
    | none=>obA C id K q) at h
   split at h
   · exact obA_last h.2
   · exact obA_last h
 | .seq a b,n,K,q,h=>obs_last b _ _ _ (obs_last a _ _ _ h)
 | .cond _ x y,n,K,q,h=>obs_last y _ _ _ (obs_last x _ _ _ h)
 | .block id b,n,K,q,h=>obs_last b _ _ _ h
 | .loop b,n,K,q,h=>by
   change (match C.lp n with
    | some ct=>ObL C ct (den Θ S Bt C b (n+1) (KloopT C.N ct K))∧obs Θ S Bt C b (n+1) (KloopT C.N ct K) q
    | none=>obs Θ S Bt C b (n+1) K q) at h
   split at h
   · exact obs_last b _ _ _ h.2
   · exact obs_last b _ _ _ h
 | .scope b,n,K,q,h=>obs_last b _ _ _ h
 | .exit _,_,_,_,h=>h
 | .label _,_,_,_,h=>h
 | .goto _,_,_,_,h=>h
 | .ret,_,_,_,h=>h
 | .rangeFunc ..,_,_,_,h=>h
 | .refuse _,_,_,_,h=>h
end
def exOf:Ex→Exit
 | .normal=> .normal
 | .ret=> .ret
 | .exit id=> .exit id
section
variable {P:Program} {Θ:Tab} {S:FuncId→Option FE} {U0:Nat→Prop} {w0:St} {R:Type} {r:R} {Bt:Nat→List Nat} {C:Cuts R}
theorem SpecsOk.less {k k0:Nat} (h:SpecsOk P S k0) (hk:k≤k0):SpecsOk P S k:=fun g s hs=>⟨(h g s hs).1,fun q hq=>(h g s hs).2 q (Nat.le_trans hq hk)⟩
def Fits (U0:Nat→Prop) (w0:St) (k0:Nat) (r:R) (K:KontT R) (Q:Exit→Act→World→Prop):Prop:= ∀ k e tm hp,k≤k0→(K k e tm hp).run=some r→ ∀ ν a w,Inv U0 ν tm hp w0 a w→Q (exOf e) a w
theorem fits_seq {k0:Nat} {d:KontT R→Nat→List AV→List AB→Tree R} {K:KontT R} {Q:Exit→Act→World→Prop} {next:Act→World→Prop} (h:Fits U0 w0 k0 r K Q) (hn : ∀ k tm hp,k≤k0→(d K k tm hp).run=some r→ ∀ ν a w,Inv U0 ν tm hp w0 a w→next a w):Fits U0 w0 k0 r (KseqT d K) (Exit.then next Q):=by
 intro k e tm hp hk hK ν a w I
 cases e with
 | normal=>exact hn k tm hp hk hK ν a w I
 | ret=>exact h k .ret tm hp hk hK ν a w I
 | exit id=>exact h k (.exit id) tm hp hk hK ν a w I
theorem fits_blk {k0:Nat} {id:Nat} {K:KontT R} {Q:Exit→Act→World→Prop} (h:Fits U0 w0 k0 r K Q):Fits U0 w0 k0 r (KblkT id K) (Exit.inBlock id Q):=by
 intro k e tm hp hk hK ν a w I
 cases e with
 | normal=>exact h k .normal tm hp hk hK ν a w I
 | ret=>exact h k .ret tm hp hk hK ν a w I
 | exit j =>
   have hK:(K k (if j=id then Ex.normal else Ex.exit j) tm hp).run=some r:=hK
   show (if j=id then Q .normal a w else Q (.exit j) a w)
   by_cases hj:j=id
   · rw [if_pos hj] at hK ⊢;exact h k .normal tm hp hk hK ν a w I
   · rw [if_neg hj] at hK ⊢;exact h k (.exit j) tm hp hk hK ν a w I
theorem fits_behind (hU0 : ∀ q,U0 q→q<w0.heap.size) (hF : ∀ p∈w0.fx,p.1∈C.N.f) {k0:Nat} {id:Nat} {K:KontT R} {Q:Exit→Act→World→Prop} {q:Prop} (ho:obA C id K q) (h:Fits U0 w0 k0 r K Q):Fits U0 w0 k0 r (behind C id K) Q:=by
 unfold behind
 unfold obA at ho
 split at ho
 · rename_i ct he
   intro k e tm hp hk hK ν a w I
   cases e with
   | normal =>
     obtain ⟨x,ν',hg,I'⟩:=I.cut hU0 hF hK
     obtain ⟨k',hk',hd⟩:=ho.1 k x r hg
     exact h k' .normal _ _ (by omega) hd ν' a w I'
   | ret=>exact h k .ret tm hp hk hK ν a w I
   | exit id=>exact h k (.exit id) tm hp hk hK ν a w I
 · exact h
theorem fits_scope {k0:Nat} {K:KontT R} {Q:Exit→Act→World→Prop} (h:Fits U0 w0 k0 r K Q):Fits U0 w0 k0 r K (Exit.noGoto Q):=by
 intro k e tm hp hk hK ν a w I
 cases e with
 | normal=>exact h k .normal tm hp hk hK ν a w I
 | ret=>exact h k .ret tm hp hk hK ν a w I
 | exit id=>exact h k (.exit id) tm hp hk hK ν a w I
theorem store_dst {ops:Array Oper} (h:storesB ops=true) : ∀ o∈ops.toList,∀ t x y,o.op= .store t x y→o.dst=none:=by
 intro o ho t x y hop
 unfold storesB at h
 rw [Array.all_eq_true'] at h
 have:=h o (by simpa using ho)
 rw [hop] at this
 simpa using this
theorem Inv.drawn {ν:Nat→Value} {tm:List AV} {hp:List AB} {a:Act} {w:World} (I:Inv U0 ν tm hp w0 a w):Inv U0 ν tm hp w0 a {w with drawn:=w.drawn+1} :=
 I.go (a:=a) none .junk undef (Nat.le_refl _) (fun _ _=>rfl) (fun j hj k hk=>(I.lt hj hk).1) trivial (I.fr.step ⟨rfl,rfl,rfl,Nat.le_refl _,fun _ _=>rfl⟩)
theorem region_ok (hm:P.follows .mixedOrders=true) (hΘ:Θ.ok P=true) (hU0 : ∀ q,U0 q→q<w0.heap.size) (hF : ∀ p∈w0.fx,p.1∈C.N.f) {id:Nat} {ops:Array Oper} {draw:Bool} {k0:Nat} {K:KontT R} {Q:Exit→Act→World→Prop} (hS:SpecsOk P S k0) (hc:codeB Bt (.region id ops draw)=true) (hK:Fits U0 w0 k0 r K Q)
 {k:Nat} {tm:List AV} {hp:List AB} (hk:k≤k0) (h:(regD Θ S Bt id ops draw K k tm hp).run=some r) {ν:Nat→Value} {a:Act} {w:World} (I:Inv U0 ν tm hp w0 a w):(Code.region id ops draw).wp P Q a w:=by
 simp only [codeB,Bool.and_eq_true,Bool.or_eq_true,Bool.not_eq_true'] at hc
 unfold regD at h
 split at h
 · rename_i hd
   subst hd
   have hr:regB ops (Bt id)=true:=hc.2.resolve_left (by simp)
   unfold regB at hr
   rw [Bool.and_eq_true] at hr
   obtain ⟨us,rec,hfin⟩:=denAny_rec ops.toList 0 (fun _=>⟨.junk,H0,[]⟩) [] tm hp rfl ⟨rfl,fun j hj=>by omega,fun a b ha=>by omega,tmD_zero.symm,hpD_zero.symm⟩ (by simp) h
   refine wp_region_any hm ?_
   have hfalse : ∀ {j:Nat},j<ops.size→dn (Array.replicate ops.size false) j=false:=fun {j} hj=>by unfold dn;simp [hj]
   have e1:tmD ops us tm (dn (Array.replicate ops.size false)) ops.size=tm:=by
    have:tmD ops us tm (dn (Array.replicate ops.size false)) ops.size=tmD ops us tm (dn (Array.replicate ops.size false)) 0:=by
     unfold tmD
     exact List.map_congr_left fun t _=>lw_skip _ _ (by omega) fun m _ hm _=>hfalse hm
    rw [this,tmD_zero]
   have e2:hpD ops us hp (dn (Array.replicate ops.size false)) ops.size=hp:=by
    have:hpD ops us hp (dn (Array.replicate ops.size false)) ops.size=hpD ops us hp (dn (Array.replicate ops.size false)) 0:=by
     unfold hpD
     exact List.map_congr_left fun t _=>lw_skip _ _ (by omega) fun m _ hm _=>hfalse hm
    rw [this,hpD_zero]
   refine any_ok hΘ (hS.less hk) hr.1 hr.2 (store_dst hc.1) rec hU0 (fun ν' a' w' I=>hK k .normal _ _ hk hfin ν' a' w' I) ops.size _ ν a _ (by simp) (fun j hj hd=>by rw [hfalse hj] at hd;cases hd) ?_ (by rw [e1,e2];exact I.drawn)
   unfold left
   exact Nat.le_trans List.countP_le_length (by simp)
 · rename_i hd
   have hd:draw=false:=by simpa using hd
   subst hd
   refine wp_region_list ?_
   exact ops_ok hΘ (hS.less hk) (fun tm' hp' h' ν' a' w' I'=>hK k .normal tm' hp' hk h' ν' a' w' I') hU0 ops.toList tm hp ν a w (store_dst hc.1) h I
theorem code_ok (hm:P.follows .mixedOrders=true) (hΘ:Θ.ok P=true) (hU0 : ∀ q,U0 q→q<w0.heap.size) (hF : ∀ p∈w0.fx,p.1∈C.N.f) : ∀ (c:Code) (k0:Nat) (n:Nat) (K:KontT R) (Q:Exit→Act→World→Prop) (q:Prop),SpecsOk P S k0→codeB Bt c=true→obs Θ S Bt C c n K q→Fits U0 w0 k0 r K Q →
 ∀ (k:Nat) (tm:List AV) (hp:List AB),k≤k0→(den Θ S Bt C c n K k tm hp).run=some r→ ∀ (ν:Nat→Value) (a:Act) (w:World),Inv U0 ν tm hp w0 a w→c.wp P Q a w
 | .skip,k0,n,K,Q,_,_,_,_,hK,k,tm,hp,hk,h,ν,a,w,I=>wp_skip (hK k .normal tm hp hk h ν a w I)
 | .exit id,k0,n,K,Q,_,_,_,_,hK,k,tm,hp,hk,h,ν,a,w,I=>wp_exit (hK k (.exit id) tm hp hk h ν a w I)
 | .ret,k0,n,K,Q,_,_,_,_,hK,k,tm,hp,hk,h,ν,a,w,I=>wp_ret (hK k .ret tm hp hk h ν a w I)
 | .region id ops draw,k0,n,K,Q,q,hS,hc,hl,hK,k,tm,hp,hk,h,ν,a,w,I=>by
   replace h:(match C.rb id with
    | some ct=>ct.go C.N k tm hp
    | none=>regD Θ S Bt id ops draw (behind C id K) k tm hp).run=some r:=h
   replace hl:(match C.rb id with
    | some ct=>ObD C ct (regD Θ S Bt id ops draw (behind C id K))∧obA C id K q
    | none=>obA C id K q):=hl
   split at h
   · rename_i ct he
     rw [he] at hl
     obtain ⟨x,ν',hg,I'⟩:=I.cut hU0 hF h
     obtain ⟨k',hk',hd⟩:=hl.1 k x r hg
     exact region_ok hm hΘ hU0 hF hS hc (fits_behind hU0 hF hl.2 hK) (by omega) hd I'
   · rename_i he
     rw [he] at hl
     exact region_ok hm hΘ hU0 hF hS hc (fits_behind hU0 hF hl hK) hk h I
 | .seq x y,k0,n,K,Q,_,hS,hc,hl,hK,k,tm,hp,hk,h,ν,a,w,I=>by
   simp only [codeB,Bool.and_eq_true] at hc
   refine wp_seq ?_
   exact code_ok hm hΘ hU0 hF x k0 n _ _ _ hS hc.1 hl (fits_seq hK fun k' tm' hp' hk' h' ν' a' w' I'=>code_ok hm hΘ hU0 hF y k0 (n+loops x) K Q _ hS hc.2 (obs_last x _ _ _ hl) hK k' tm' hp' hk' h' ν' a' w' I') k tm hp hk h ν a w I
 | .cond c x y,k0,n,K,Q,_,hS,hc,hl,hK,k,tm,hp,hk,h,ν,a,w,I=>by
   simp only [codeB,Bool.and_eq_true] at hc
   replace h:(match opnd tm c with
    | .val [.ro .bool b]=>Tree.tst ((b:Bool)=true) (den Θ S Bt C x n K k tm hp) (den Θ S Bt C y (n+loops x) K k tm hp)
    | _=> .non).run=some r:=h
   split at h
   · rename_i b hb
     have hv:=ro_bool (hb▸I.opnd c)
     refine wp_cond_split hv (fun ht=> ?_) (fun hf=> ?_)
     · rcases Tree.tst_run h with ⟨_,h⟩ | ⟨hn,_⟩
       · exact code_ok hm hΘ hU0 hF x k0 n K Q _ hS hc.1 hl hK k tm hp hk h ν a w I
       · exact absurd ht hn
     · rcases Tree.tst_run h with ⟨hn,_⟩ | ⟨_,h⟩
       · rw [hf] at hn;cases hn
       · exact code_ok hm hΘ hU0 hF y k0 (n+loops x) K Q _ hS hc.2 (obs_last x _ _ _ hl) hK k tm hp hk h ν a w I
   · cases h
 | .block id b,k0,n,K,Q,q,hS,hc,hl,hK,k,tm,hp,hk,h,ν,a,w,I=>wp_block (code_ok hm hΘ hU0 hF b k0 n _ _ _ hS hc hl (fits_blk hK) k tm hp hk h ν a w I)
 | .loop c,k0,n,K,Q,q,hS,hc,hl,hK,k,tm,hp,hk,h,ν,a,w,I=>by
   replace h:(match C.lp n with
    | some ct=>ct.go C.N k tm hp
    | none=> .non).run=some r:=h
   replace hl:(match C.lp n with
    | some ct=>ObL C ct (den Θ S Bt C c (n+1) (KloopT C.N ct K))∧obs Θ S Bt C c (n+1) (KloopT C.N ct K) q
    | none=>obs Θ S Bt C c (n+1) K q):=hl
   split at h
   · rename_i ct he
     rw [he] at hl
     refine wp_loop_ghost (fun m a w=>m≤k0∧ ∃ tm hp ν,(ct.go C.N m tm hp).run=some r∧Inv U0 ν tm hp w0 a w) k ⟨hk,tm,hp,ν,h,I⟩ ?_
     rintro m a w ⟨hm0,tm,hp,ν,hJ,I⟩
     obtain ⟨x,ν',hg,I'⟩:=I.cut hU0 hF hJ
     obtain ⟨k',hk',hd⟩:=hl.1 m x r hg
     refine code_ok hm hΘ hU0 hF c k' (n+1) _ _ _ (hS.less (by omega)) hc hl.2 ?_ k' _ _ (Nat.le_refl _) hd ν' a w I'
     intro k2 e tm2 hp2 hk2 hK2 ν2 a2 w2 I2
     cases e with
     | normal=>exact ⟨k2,by omega,by omega,tm2,hp2,ν2,hK2,I2⟩
     | ret=>exact hK k2 .ret tm2 hp2 (by omega) hK2 ν2 a2 w2 I2
     | exit id=>exact hK k2 (.exit id) tm2 hp2 (by omega) hK2 ν2 a2 w2 I2
   · cases h
 | .label _,k0,n,K,Q,_,_,_,_,hK,k,tm,hp,hk,h,ν,a,w,I=>wp_label (hK k .normal tm hp hk h ν a w I)
 | .goto _,_,_,_,_,_,_,_,_,_,_,_,_,_,h,_,_,_,_=>absurd (show (Tree.non:Tree R).run=some r from h) (fun z=>Tree.non_run z)
 | .refuse _,_,_,_,_,_,_,_,_,_,_,_,_,_,h,_,_,_,_=>absurd (show (Tree.non:Tree R).run=some r from h) (fun z=>Tree.non_run z)
 | .scope b,k0,n,K,Q,q,hS,hc,hl,hK,k,tm,hp,hk,h,ν,a,w,I=>wp_scope_straight (code_ok hm hΘ hU0 hF b k0 n _ _ _ hS hc hl (fits_scope hK) k tm hp hk h ν a w I)
 | .rangeFunc ..,_,_,_,_,_,_,_,_,_,_,_,_,_,h,_,_,_,_=>absurd (show (Tree.non:Tree R).run=some r from h) (fun z=>Tree.non_run z)
end
end Go.Proofs.YtjocbnjpjihpnaaGreatW.Abs

end
section
namespace Go.Proofs.YtjocbnjpjihpnaaGreatW.Abs
open Go.RowKit Go.Proofs.YtjocbnjpjihpnaaGreatW.PrintWords Go.Proofs.YtjocbnjpjihpnaaGreatW.PrintLast Go.Proofs.YtjocbnjpjihpnaaGreatW.PrintMore
set_option linter.unusedVariables false
set_option linter.unusedSectionVars false
set_option linter.unusedSimpArgs false

def argV:(ps:List Ty)→TT ps→List AV
 | [],_=> []
 | t::ts,(x,y)=> .val (expl t x)::argV ts y
def resT (Θ:Tab) (tm:List AV) (hp:List AB):(rs:List Ty)→List ResultVar→Option (TT rs)
 | [],[]=>some ()
 | t::ts, .tmp q::os=>match opnd tm (.tmp q) with
   | .val cs=>match toT hp t cs with
     | some (x,[])=>match resT Θ tm hp ts os with
       | some xs=>some (x,xs)
       | none=>none
     | _=>none
   | _=>none
 | t::ts, .cell q u::os=>match opnd tm (.tmp q),ti Θ u with
   | .val [.ptr j 0],some i=>match hp[j]? with
     | some (.cells _ _ cs)=>if i.size=cs.length then (match toT hp t cs with
       | some (x,[])=>match resT Θ tm hp ts os with
         | some xs=>some (x,xs)
         | none=>none
       | _=>none) else none
     | _=>none
   | _,_=>none
 | _,_=>none
def K0 (Θ:Tab) (rs:List Ty) (vs:List ResultVar):KontT (TT rs):=fun k e tm hp=>match e with
 | .exit _=> .non
 | _=>ofO (resT Θ tm hp rs vs)
def tm0 (n:Nat) (ps:List Ty) (x:TT ps):List AV:=argV ps x++List.replicate (n-ps.length) .junk
section
variable {P:Program} {Θ:Tab} {S:FuncId→Option FE} {U0:Nat→Prop} {ν:Nat→Value} {tm:List AV} {hp:List AB} {w0:St} {w:World} {a:Act}
theorem argV_len : ∀ {ps:List Ty} {x:TT ps},(argV ps x).length=ps.length
 | [],_=>rfl
 | t::ts,x=>congrArg (· +1) argV_len
theorem argV_rel {ν:Nat→Value} {L:Nat→Prop} : ∀ {ps:List Ty} {x:TT ps} {vs:List Value},ArgR (Un U0 ν L) w ps x vs→vs.length=ps.length∧ ∀ (i:Nat) (y:AV),(argV ps x)[i]? =some y→ ∃ v:Value,vs[i]? =some v∧RelV U0 ν L w y v
 | [],x,vs,h=>by rw [show vs= [] from h];exact ⟨rfl,fun i y hy=>by simp [argV] at hy⟩
 | t::ts,x,v::vs,⟨⟨cs,h1,h2⟩,h3⟩=>by
   obtain ⟨q1,q2⟩:=argV_rel h3
   refine ⟨congrArg (· +1) q1,fun i y hy=> ?_⟩
   cases i with
   | zero =>
     simp only [argV,List.getElem?_cons_zero] at hy
     injection hy with hy
     subst hy
     exact ⟨v,rfl,cs,h1,expl_rel t x.1 h2⟩
   | succ i =>
     simp only [argV,List.getElem?_cons_succ] at hy
     exact q2 i y hy
 | _::_,_,[],h=>h.elim
def resItem (tmps:Array Value):ResultVar→Sem Value
 | .tmp t=>pure (tmps.getD t undef)
 | .cell a t=>do loadVar t (← asAddr (tmps.getD a undef))
theorem res_told (I:Inv U0 ν tm hp w0 a w) {U:Nat→Prop} (hU : ∀ k,k<w.heap.size→U k→Un U0 ν (lv hp) k) {t:Ty} {cs:List AC} {x:T t} {vs:List Value} (hm:MayTell U ν hp cs) (h:toT hp t cs=some (x,[])) (hr:All2 (RelC U0 ν (lv hp) w) cs vs):Rd U w t x vs:=by
 obtain ⟨v1,v2,e1,e2,e3,_⟩:=toT_rel I hU hm h hr
 have:v2= []:=by
  cases v2 with
  | nil=>rfl
  | cons _ _=>exact e3.elim
 subst this
 rw [List.append_nil] at e1
 exact e1▸e2
def resC (tm:List AV) (hp:List AB):ResultVar→List AC
 | .tmp q=>cellsOf (opnd tm (.tmp q))
 | .cell q _=>match opnd tm (.tmp q) with
   | .val [.ptr j 0]=>match hp[j]? with
     | some (.cells _ _ cs)=>cs
     | _=> []
   | _=> []
theorem resT_rel (hΘ:Θ.ok P=true) (I:Inv U0 ν tm hp w0 a w) {U:Nat→Prop} (hU : ∀ k,k<w.heap.size→U k→Un U0 ν (lv hp) k) : ∀ {rs:List Ty} {os:List ResultVar} {x:TT rs},(∀ o∈os,MayTell U ν hp (resC tm hp o))→resT Θ tm hp rs os=some x→ ∃ us,(os.mapM (resItem a.tmps)).run P w= .ok us w∧ResL U w rs x us
 | [],[],x,hT,h=>⟨[],by simp,rfl⟩
 | t::ts, .tmp q::os,x,hT,h=>by
   simp only [resT] at h
   split at h
   · rename_i cs hc
     split at h
     · rename_i y hy
       split at h
       · rename_i ys hys
         injection h with h
         subst h
         obtain ⟨vs,h1,h2⟩:=hc▸I.opnd (.tmp q)
         obtain ⟨us,e1,e2⟩:=resT_rel hΘ I hU (fun o ho=>hT o (List.mem_cons_of_mem _ ho)) hys
         have hT0:=hT _ List.mem_cons_self
         simp only [resC,hc,cellsOf] at hT0
         refine ⟨mkV vs::us, ?_,⟨vs,rfl,res_told I hU hT0 hy h2⟩,e2⟩
         have h1:a.tmps.getD q undef=mkV vs:=h1
         simp [List.mapM_cons,resItem,h1,e1]
       · cases h
     · cases h
   · cases h
 | t::ts, .cell q u::os,x,hT,h=>by
   simp only [resT] at h
   split at h
   · rename_i j i hj hi
     split at h
     · rename_i lq e cs hb
       split at h
       · rename_i hsz
         split at h
         · rename_i y hy
           split at h
           · rename_i ys hys
             injection h with h
             subst h
             obtain ⟨hjl,g,hν,hv⟩:=val_one (hj▸I.opnd (.tmp q))
             obtain ⟨g',vs,h1,h2,h3,h4,h5⟩:=I.cells hb
             rw [hν] at h1
             injection h1 with h1
             injection h1 with h1
             injection h1 with h1
             subst h1
             obtain ⟨f,d,hf,hd,hs,_,_,ha,_⟩:=kind_of hΘ hi
             have hr:=run_loadAt (P:=P) (w:=w) (ad:=⟨g,0,none⟩) (vs:=vs) hf hd hs ha (by rw [← h4.len,hsz]) (fun z hz=>by rw [add_at,blk_cell h3];simp)
             obtain ⟨us,e1,e2⟩:=resT_rel hΘ I hU (fun o ho=>hT o (List.mem_cons_of_mem _ ho)) hys
             have hT0:=hT _ List.mem_cons_self
             simp only [resC,hj,hb] at hT0
             refine ⟨mkV vs::us, ?_,⟨vs,rfl,res_told I hU hT0 hy h4⟩,e2⟩
             have hv:a.tmps.getD q undef= .pointer (some ⟨g,0,none⟩):=hv
             have hr':(loadVar u ⟨g,0,none⟩).run P w= .ok (mkV vs) w:=by
              have:=hr
              unfold Instr.loadAt Instr.sureAddr at this
              simpa using this
             simp [List.mapM_cons,resItem,hv,e1,asAddr,hr']
           · cases h
         · cases h
       · cases h
     · cases h
   · cases h
 | [],_::_,x,_,h=>by simp [resT] at h
 | _::_,[],x,_,h=>by simp [resT] at h
theorem run_results {fn:Func} {us:List Value} (h:(fn.results.toList.mapM (resItem a.tmps)).run P w= .ok us w):(results fn a.tmps).run P w= .ok (mkR us) w:=by
 have e:results fn a.tmps=(do
  let vs ← fn.results.mapM (resItem a.tmps)
  pure (if h:vs.size=1 then vs[0] else .tuple vs)):=by
  unfold results
  congr 1
 rw [e,Array.mapM_eq_mapM_toList]
 simp only [bind_map_left,Sem.run_bind,h,Result.andThen_ok,Sem.run_pure]
 congr 1
 match us with
 | []=>rfl
 | [u]=>rfl
 | u::v::l=>rfl
theorem fn_ok {g:FuncId} {fn:Func} {c:Code} {s:FSpec} {k k1:Nat} {Bt:Nat→List Nat} {C:Cuts (TT s.rs)} (hm:P.follows .mixedOrders=true) (hΘ:Θ.ok P=true) (hS:SpecsOk P S k) (hf:P.funcs[g]? =some fn) (hb:fn.body=some c) (hc:codeB Bt c=true) (hn:s.ps.length≤fn.ntmps)
 (hl:obs Θ S Bt C c 0 (K0 Θ s.rs fn.results.toList) True) (hd : ∀ x r,s.f k1 x=some r→(den Θ S Bt C c 0 (K0 Θ s.rs fn.results.toList) k (tm0 fn.ntmps s.ps x) (List.replicate fn.ntmps .gone)).run=some r):FnOk P g s k1:=by
 intro x r hr U w vs hU harg
 have hnl : ∀ j,¬ lv (List.replicate fn.ntmps AB.gone) j:=fun j ⟨b,h1,h2⟩=>by
  rw [List.getElem?_replicate] at h1
  split at h1
  · injection h1 with h1;subst h1;simp [isGone] at h2
  · cases h1
 have hun : ∀ q,Un U (fun _=>undef) (lv (List.replicate fn.ntmps AB.gone)) q→U q:=fun q hq=>hq.elim id fun ⟨j,hj,_⟩=>absurd hj (hnl j)
 have harg':ArgR (Un U (fun _=>undef) (lv (List.replicate fn.ntmps AB.gone))) w s.ps x vs:=by
  have key : ∀ {ps:List Ty} {x:TT ps} {vs:List Value},ArgR U w ps x vs→ArgR (Un U (fun _=>undef) (lv (List.replicate fn.ntmps AB.gone))) w ps x vs:=by
   intro ps
   induction ps with
   | nil=>intro x vs h;exact h
   | cons t ts ih =>
     intro x vs h
     cases vs with
     | nil=>exact h.elim
     | cons v vs =>
       obtain ⟨⟨cs,h1,h2⟩,h3⟩:=h
       exact ⟨⟨cs,h1,h2.move ⟨Nat.le_refl _,fun _ _ _=>rfl,fun q _ z=>hun q z⟩⟩,ih h3⟩
  exact key harg
 obtain ⟨hlen,hrel⟩:=argV_rel harg'
 refine calls_of_wp hf hb ?_
 refine code_ok hm hΘ (w0:= {toWorld:=w,io:= [],fx:= []}) hU (fun p hp=>by simp at hp) c k 0 _ _ _ hS hc hl ?_ k _ _ (Nat.le_refl _) (hd x r hr) (fun _=>undef) _ w ?_
 · intro k' e tm hp hk' hK ν a w' I
   have fin:(ofO (resT Θ tm hp s.rs fn.results.toList)).run=some r→a.defers= []∧ ∃ v,(results fn a.tmps).run P w'= .ok v w'∧ ∃ v',Ending.returned v= .returned v'∧ResR U w' s.rs r v'∧Below w.heap.size w w':=by
    intro h
    rw [ofO_run] at h
    obtain ⟨us,e1,e2⟩:=resT_rel hΘ I (U:=U) (fun k _ z=> .inl z) (fun o _ j e t xs hj hb k hk hu=>by
     have h1:w.heap.size≤k:=I.lt_mine hb hk
     have:=hU k hu
     omega) h
    exact ⟨I.defers,_,run_results e1,_,rfl,⟨us,rfl,e2⟩,⟨I.fr.os,I.fr.tape,I.fr.output,I.fr.size,fun k hk=>I.fr.block k hk (by simp)⟩⟩
   cases e with
   | normal=>exact fin hK
   | ret=>exact fin hK
   | exit id=>exact (Tree.non_run hK).elim
 · refine ⟨by simp [tm0,argV_len,hlen],fun i y hy=> ?_,fun j b h1 h2=>absurd ⟨b,h1,h2⟩ (hnl j),fun i j _ hi=>absurd hi (hnl i),⟨rfl,rfl,rfl,Nat.le_refl _,fun _ _ _=>rfl⟩,fun p hp=>by simp at hp,rfl⟩
   unfold tm0 at hy
   rw [List.getElem?_append] at hy
   split at hy
   · rename_i hi
     obtain ⟨v,hv,hR⟩:=hrel i y hy
     have:(vs.toArray++Array.replicate (fn.ntmps-vs.toArray.size) undef).getD i undef=v:=by
      have hlt:=(List.getElem?_eq_some_iff.1 hv).1
      rw [Array.getD_eq_getD_getElem?,Array.getElem?_append,if_pos (by simpa using hlt)]
      simp [hv]
     show RelV _ _ _ _ _ ((vs.toArray++Array.replicate (fn.ntmps-vs.toArray.size) undef).getD i undef)
     rw [this]
     exact hR
   · rw [List.getElem?_replicate] at hy
     split at hy
     · injection hy with hy;subst hy;trivial
     · cases hy
end
def LeM {A R:Type} (m:A→R) (x:Option A) (y:Option R):Prop:= ∀ a,x=some a→y=some (m a)
def FOk (P:Program) (g:FuncId) (s:FSpec):Prop:=bodied P g=true∧ ∀ k,FnOk P g s k
def FIk (P:Program) (g:FuncId) (s:ISpec):Prop:=bodied P g=true∧ ∀ k,IOk P g s k
def FNk (P:Program) (g:FuncId) (s:NSpec):Prop:=bodied P g=true∧ ∀ k,NOk P g s k
def look:List (FuncId × FE)→FuncId→Option FE
 | [],_=>none
 | (u,s)::l,g=>if g=u then some s else look l g
def Oks (P:Program):List (FuncId × FE)→Prop
 | []=>True
 | (g, .pu s)::l=>FOk P g s∧Oks P l
 | (g, .io s _)::l=>FIk P g s∧Oks P l
 | (g, .nw s)::l=>FNk P g s∧Oks P l
def blook:List (Nat × List Nat)→Nat→List Nat
 | [],_=> []
 | (u,b)::l,i=>if i=u then b else blook l i
def LeT {A R:Type} (m:A→R) (x:Option A) (y:Tree R):Prop:=LeM m x y.run
section
variable {A B C R:Type} {m:A→R}
theorem LeT.call {x:Option B} {q:B→C} {y:Option C} {F:B→Option A} {G:C→Tree R} (hy:x.map q=y) (h : ∀ t,x=some t→LeT m (F t) (G (q t))):LeT m (x.bind F) (.cll y G):=by
 subst hy
 intro a ha
 cases hx:x with
 | none=>rw [hx] at ha;cases ha
 | some t=>rw [hx] at ha;exact h t hx a ha
theorem LeT.again {x:Option B} {t:B} {q:B→C} {y:Option C} {X:Option A} {G:C→Tree R} (hx:x=some t) (hy:x.map q=y) (h:LeT m X (G (q t))):LeT m X (.cll y G):=by
 intro a ha
 subst hy hx
 exact h a ha
theorem LeT.ite {c:Prop} [Decidable c] {X Y:Option A} {Z:Tree R} (h1:c→LeT m X Z) (h2 : ¬ c→LeT m Y Z):LeT m (if c then X else Y) Z:=by
 by_cases h:c
 · rw [if_pos h];exact h1 h
 · rw [if_neg h];exact h2 h
theorem LeT.tstp {c:Prop} [d:Decidable c] {X:Option A} {Y Z:Tree R} (h:c) (k:LeT m X Y):LeT m X (.tst c Y Z):=fun a ha=>by
 show (if c then Y.run else Z.run)=_
 rw [if_pos h];exact k a ha
theorem LeT.tstn {c:Prop} [d:Decidable c] {X:Option A} {Y Z:Tree R} (h : ¬ c) (k:LeT m X Z):LeT m X (.tst c Y Z):=fun a ha=>by
 show (if c then Y.run else Z.run)=_
 rw [if_neg h];exact k a ha
theorem LeT.now {a:A} {r:R} (h:r=m a):LeT m (some a) (.done r):=fun b hb=>by injection hb with hb;subst hb;exact congrArg some h
theorem LeT.none {y:Tree R} :LeT m Option.none y:=fun b hb=>by cases hb
theorem LeT.tail {x:Option A} {y:Option R} (h:x.map m=y):LeT m x (.cll y .done):=fun a ha=>by
 subst h ha
 rfl
end
section
variable {R A:Type} {m:A→R} {N:CN} {sl:List Slot} {F:Nat→TS sl→Option A} {D:Nat→List AV→List AB→Tree R}
theorem ob_loop (h0 : ∀ x,F 0 x=none) (h : ∀ k x,LeT m (F (k+1) x) (fL (cutT N sl x) fun tm=>fH (cutH N sl x) fun hp=>D k tm hp)) : ∀ k x r,(F k x).map m=some r→ ∃ k',k'<k∧(D k' (cutT N sl x) (cutH N sl x)).run=some r
 | 0,x,r,hr=>by rw [h0 x] at hr;cases hr
 | k+1,x,r,hr=>by
   obtain ⟨a,ha,rfl⟩:=Option.map_eq_some_iff.1 hr
   have:=h k x a ha
   rw [fL_eq,fH_eq] at this
   exact ⟨k,Nat.lt_succ_self k,this⟩
theorem ob_join1 (h0 : ∀ x,F 0 x=none) (h : ∀ k x,LeT m (F (k+1) x) (fL (cutT N sl x) fun tm=>fH (cutH N sl x) fun hp=>D k tm hp)) : ∀ k x r,(F k x).map m=some r→ ∃ k',k'≤k∧(D k' (cutT N sl x) (cutH N sl x)).run=some r:=fun k x r hr=>by
 obtain ⟨k',h1,h2⟩:=ob_loop h0 h k x r hr
 exact ⟨k',Nat.le_of_lt h1,h2⟩
end
def noCuts {R:Type} :Cuts R:=⟨⟨0,0,[]⟩,fun _=>none,fun _=>none,fun _=>none⟩
def OksK (P:Program) (k0:Nat):List (FuncId × FE)→Prop
 | []=>True
 | p::l=>(bodied P p.1=true∧ ∀ k,k≤k0→FeOk P p.1 p.2 k)∧OksK P k0 l
theorem Oks.upTo {P:Program} {k0:Nat} : ∀ {l:List (FuncId × FE)},Oks P l→OksK P k0 l
 | [],_=>trivial
 | (_, .pu _)::l,h=>⟨⟨h.1.1,fun k _=>h.1.2 k⟩,Oks.upTo (l:=l) h.2⟩
 | (_, .io _ _)::l,h=>⟨⟨h.1.1,fun k _=>h.1.2 k⟩,Oks.upTo (l:=l) h.2⟩
 | (_, .nw _)::l,h=>⟨⟨h.1.1,fun k _=>h.1.2 k⟩,Oks.upTo (l:=l) h.2⟩
theorem look_okK {P:Program} {k0:Nat} : ∀ {l:List (FuncId × FE)},OksK P k0 l→SpecsOk P (look l) k0
 | [],_,g,s,hs=>by simp [look] at hs
 | (u,t)::l,h,g,s,hs=>by
   unfold look at hs
   split at hs
   · rename_i e;injection hs with hs;subst hs;subst e;exact h.1
   · exact look_okK (l:=l) h.2 g s hs
theorem fn_ofK {P:Program} {Θ:Tab} {l:List (FuncId × FE)} {g:FuncId} {fn:Func} {c:Code} {s:FSpec} {Bt:Nat→List Nat} {C:Cuts (TT s.rs)} {A:Type} {m:A→TT s.rs} {k k1:Nat} {F:TT s.ps→Option A} (hm:P.follows .mixedOrders=true) (hΘ:Θ.ok P=true) (ho:OksK P k l) (hf:P.funcs[g]? =some fn) (hb:fn.body=some c) (hc:codeB Bt c=true) (hn:s.ps.length≤fn.ntmps)
 (hF : ∀ x,s.f k1 x=(F x).map m) (hl:obs Θ (look l) Bt C c 0 (K0 Θ s.rs fn.results.toList) True) (hd : ∀ x,LeT m (F x) (fL (tm0 fn.ntmps s.ps x) fun tm=>fH (List.replicate fn.ntmps .gone) fun hp=>den Θ (look l) Bt C c 0 (K0 Θ s.rs fn.results.toList) k tm hp)):FnOk P g s k1 :=
 fn_ok hm hΘ (look_okK ho) hf hb hc hn hl fun x r hr=>by
  rw [hF] at hr
  obtain ⟨a,ha,rfl⟩:=Option.map_eq_some_iff.1 hr
  have:=hd x a ha
  rw [fL_eq,fH_eq] at this
  exact this
theorem fn_of {P:Program} {Θ:Tab} {l:List (FuncId × FE)} {g:FuncId} {fn:Func} {c:Code} {s:FSpec} {Bt:Nat→List Nat} {C:Cuts (TT s.rs)} {A:Type} {m:A→TT s.rs} {F:Nat→TT s.ps→Option A} (hm:P.follows .mixedOrders=true) (hΘ:Θ.ok P=true) (ho:Oks P l) (hf:P.funcs[g]? =some fn) (hb:fn.body=some c) (hc:codeB Bt c=true) (hn:s.ps.length≤fn.ntmps) (hg:bodied P g=true)
 (hF : ∀ k x,s.f k x=(F k x).map m) (hl:obs Θ (look l) Bt C c 0 (K0 Θ s.rs fn.results.toList) True) (hd : ∀ k x,LeT m (F k x) (fL (tm0 fn.ntmps s.ps x) fun tm=>fH (List.replicate fn.ntmps .gone) fun hp=>den Θ (look l) Bt C c 0 (K0 Θ s.rs fn.results.toList) k tm hp)):FOk P g s :=
 ⟨hg,fun k=>fn_ofK (k1:=k) hm hΘ ho.upTo hf hb hc hn (hF k) hl (hd k)⟩
attribute [irreducible] LeT
end Go.Proofs.YtjocbnjpjihpnaaGreatW.Abs

end
section
namespace Go.Proofs.YtjocbnjpjihpnaaGreatW.Abs
open Go.RowKit Go.Proofs.YtjocbnjpjihpnaaGreatW.PrintWords Go.Proofs.YtjocbnjpjihpnaaGreatW.PrintLast Go.Proofs.YtjocbnjpjihpnaaGreatW.PrintMore
set_option linter.unusedVariables false
set_option linter.unusedSectionVars false
set_option linter.unusedSimpArgs false

def rowsN:List FK→Nat
 | []=>0
 | .row _ _ _::l=>rowsN l+1
 | _::l=>rowsN l
def namesN:List PK→Nat
 | []=>0
 | .ty _::l=>namesN l
 | .st _ fs::l=>1+rowsN fs+namesN l
 | .bor _ _::l=>1+namesN l
def lq (keep:Bool):Lq:=match keep with
 | true=> .kept
 | false=> .lent
def ioV:(ps:List PK)→PT ps→Nat→List AV
 | [],_,_=> []
 | .ty t::l,(x,y),b=> .val (expl t x)::ioV l y b
 | .st _ fs::l,(_,y),b=> .val [.ptr b 0]::ioV l y (b+(1+rowsN fs))
 | .bor _ _::l,(_,y),b=> .val [.own b]::ioV l y (b+1)
def stC:(fs:List FK)→FT fs→Nat→List AC
 | [],_,_=> []
 | .ty t::l,(x,y),b=>expl t x++stC l y b
 | .row _ _ _::l,(_,y),b=> .own b::stC l y (b+1)
def stE:(fs:List FK)→FT fs→Nat→List (Nat × AB)
 | [],_,_=> []
 | .ty _::l,(_,y),b=>stE l y b
 | .row k e t::l,(x,y),b=>(b, .row (lq k) e t x)::stE l y (b+1)
def ioE:(ps:List PK)→PT ps→Nat→List (Nat × AB)
 | [],_,_=> []
 | .ty _::l,(_,y),b=>ioE l y b
 | .st e fs::l,(x,y),b=>(b, .cells .kept e (stC fs x (b+1)))::(stE fs x (b+1)++ioE l y (b+(1+rowsN fs)))
 | .bor e t::l,(x,y),b=>(b, .row .kept e t x)::ioE l y (b+1)
def tmI (n:Nat) (ps:List PK) (x:PT ps):List AV:=ioV ps x n++List.replicate (n-ps.length) .junk
def hpI (n m:Nat) (ps:List PK) (x:PT ps):List AB:=chs (ioE ps x n) (List.replicate m .gone)
def fxF:List FK→Nat→List Nat
 | [],_=> []
 | .ty _::l,b=>fxF l b
 | .row k _ _::l,b=>match k with
   | true=>b::fxF l (b+1)
   | false=>fxF l (b+1)
def fxP:List PK→Nat→List Nat
 | [],_=> []
 | .ty _::l,b=>fxP l b
 | .st _ fs::l,b=>b::(fxF fs (b+1)++fxP l (b+(1+rowsN fs)))
 | .bor _ _::l,b=>b::fxP l (b+1)
def endC (hp:List AB):(fs:List FK)→List AC→Nat→Option (FT fs × List Nat)
 | [],[],_=>some ((),[])
 | .ty t::l,cs,b=>match toT hp t cs with
   | some (x,cs')=>match endC hp l cs' b with
     | some (y,ids)=>some ((x,y),ids)
     | none=>none
   | none=>none
 | .row true e t::l, .own j::cs,b=>if j=b then (match hp[j]? with
   | some (.row .kept e' t' xs)=>if h:e'=e∧t'=t then (match endC hp l cs (b+1) with
     | some (y,ids)=>h.2▸some ((xs,y),j::ids)
     | none=>none) else none
   | _=>none) else none
 | .row false e t::l, .nils::cs,b=>match endC hp l cs (b+1) with
   | some (y,ids)=>some (([],y),ids)
   | none=>none
 | .row false e t::l, .own j::cs,b=>match hp[j]? with
   | some (.row q e' t' xs)=>if h:e'=e∧t'=t then (if q= .kept then none else match endC hp l cs (b+1) with
     | some (y,ids)=>h.2▸some ((xs,y),j::ids)
     | none=>none) else none
   | _=>none
 | _,_,_=>none
def endP (hp:List AB):(ps:List PK)→Nat→Option (ET ps × List Nat)
 | [],_=>some ((),[])
 | .ty _::l,b=>endP hp l b
 | .st e fs::l,b=>match hp[b]? with
   | some (.cells .kept e' cs)=>if e'=e then (match endC hp fs cs (b+1) with
     | some (x,ids)=>match endP hp l (b+(1+rowsN fs)) with
       | some (y,ids')=>some ((x,y),b::(ids++ids'))
       | none=>none
     | none=>none) else none
   | _=>none
 | .bor e t::l,b=>match hp[b]? with
   | some (.row .kept e' t' xs)=>if h:e'=e∧t'=t then (match endP hp l (b+1) with
     | some (y,ids)=>h.2▸some ((xs,y),b::ids)
     | none=>none) else none
   | _=>none
def toldF:List FK→List AC→List AC
 | .ty t::l,cs=>cs.take t.size++toldF l (cs.drop t.size)
 | .row _ _ _::l,_::cs=>toldF l cs
 | _,_=> []
def toldE (hp:List AB):List PK→Nat→List AC
 | [],_=> []
 | .ty _::l,b=>toldE hp l b
 | .st _ fs::l,b=>(match hp[b]? with
   | some (.cells _ _ cs)=>toldF fs cs
   | _=> [])++toldE hp l (b+(1+rowsN fs))
 | .bor _ _::l,b=>toldE hp l (b+1)
def ownsC:List AC→List Nat
 | []=> []
 | .own j::cs=>j::ownsC cs
 | _::cs=>ownsC cs
def toldOk (hp:List AB) (tm:List AV) (ps:List PK) (n:Nat) (vs:List ResultVar) (ids:List Nat):Bool :=
 nodupN ids&&((ownsC (vs.flatMap (resC tm hp)++toldE hp ps n)).all fun j=> !ids.contains j)
def endK (Θ:Tab) (rs:List Ty) (vs:List ResultVar) (ps:List PK) (n:Nat) (tm:List AV) (hp:List AB):Tree (TT rs × ET ps):=match resT Θ tm hp rs vs with
 | some x=>match endP hp ps n with
   | some (y,ids)=>if toldOk hp tm ps n vs ids=true then .done (x,y) else .non
   | none=> .non
 | none=> .non
def K0I (Θ:Tab) (rs:List Ty) (vs:List ResultVar) (ps:List PK) (n:Nat):KontT (TT rs × ET ps):=fun k e tm hp=>match e with
 | .exit _=> .non
 | _=>endK Θ rs vs ps n tm hp
section
variable {P:Program} {Θ:Tab} {S:FuncId→Option FE} {U0:Nat→Prop} {ν:Nat→Value} {tm:List AV} {hp:List AB} {w0:St} {w w':World} {a:Act}
theorem ownsC_mem : ∀ {cs:List AC} {j:Nat},AC.own j∈cs→j∈ownsC cs
 | c::cs,j,h=>by
   rcases List.mem_cons.1 h with rfl | h
   · exact List.mem_cons_self
   · have:=ownsC_mem h
     cases c<;>first | exact List.mem_cons_of_mem _ this | exact this
def nvF:List FK→List Value→Nat→List (Nat × Value)
 | .ty t::l,us,b=>nvF l (us.drop t.size) b
 | .row _ _ _::l,u::us,b=>(b,u)::nvF l us (b+1)
 | _,_,_=> []
def nvP (w:World):List PK→List Value→Nat→List (Nat × Value)
 | .ty _::l,_::vs,b=>nvP w l vs b
 | .st _ fs::l,v::vs,b=>(b,v)::(nvF fs (cellsW w v) (b+1)++nvP w l vs (b+(1+rowsN fs)))
 | .bor _ _::l,v::vs,b=>(b,v)::nvP w l vs (b+1)
 | _,_,_=> []
theorem nvF_nil : ∀ (fs:List FK) (b:Nat),nvF fs [] b= []
 | [],_=>rfl
 | .ty t::l,b=>by simp only [nvF,List.drop_nil];exact nvF_nil l b
 | .row _ _ _::l,b=>rfl
theorem rowsN_range (b n:Nat):b::(List.range n).map (b+1+ ·)=(List.range (1+n)).map (b+ ·):=by
 rw [Nat.add_comm 1 n,List.range_succ_eq_map,List.map_cons,List.map_map]
 congr 1
 exact List.map_congr_left fun i _=>by simp only [Function.comp];omega
theorem begF {U:Nat→Prop} : ∀ {fs:List FK} {x:FT fs} {us:List Value} {bl:List Nat} (b:Nat),FldR U w fs x us bl →
 (stE fs x b).map (·.1)=(List.range (rowsN fs)).map (b+ ·)∧(nvF fs us b).map (·.1)=(List.range (rowsN fs)).map (b+ ·)∧bl=(nvF fs us b).flatMap (fun p=>(blk p.2).toList)∧(∀ p∈stE fs x b,isGone p.2=false) ∧
 (∀ i∈fxF fs b,∃ b',(i,b')∈stE fs x b∧isFx b'=true)∧(∀ p∈nvF fs us b,ref p.2=p.2) ∧
 ∀ (s:St) (ν:Nat→Value) (L:Nat→Prop),(∀ p∈nvF fs us b,ν p.1=p.2∧L p.1)→Move U w w (Un U ν L)→(∀ k∈bl,k∈s.io)→All2 (RelC U ν L w) (stC fs x b) us∧ ∀ p∈stE fs x b,RelB U ν L s w p.1 p.2
 | [],x,us,bl,b,h=>by
   obtain ⟨rfl,rfl⟩:=h
   exact ⟨rfl,rfl,rfl,fun p hp=>by simp [stE] at hp,fun i hi=>by simp [fxF] at hi,fun p hp=>by simp [nvF] at hp,fun s ν L _ _ _=>⟨trivial,fun p hp=>by simp [stE] at hp⟩⟩
 | .ty t::l,x,us,bl,b,h=>by
   obtain ⟨v1,v2,rfl,q1,q2⟩:=h
   have hl:v1.length=t.size:=by rw [(kd t).K_len q1.K,kd_sz]
   have e2:(v1++v2).drop t.size=v2:=by rw [← hl,List.drop_left]
   have e3:nvF (.ty t::l) (v1++v2) b=nvF l v2 b:=by simp only [nvF,e2]
   obtain ⟨z1,z2,z3,z4,z5,z6,z7⟩:=begF b q2
   rw [e3]
   refine ⟨z1,z2,z3,z4,z5,z6,fun s ν L h1 h2 h3=> ?_⟩
   obtain ⟨y1,y2⟩:=z7 s ν L h1 h2 h3
   exact ⟨(expl_rel t x.1 (q1.move h2)).app y1,y2⟩
 | .row kp e t::l,x,[],bl,b,h=>h.elim
 | .row kp e t::l,x,u::us,bl,b,h=>by
   obtain ⟨inner,b2,f1,f2,rfl,f3⟩:=h
   obtain ⟨z1,z2,z3,z4,z5,z6,z7⟩:=begF (b+1) f3
   have hr:(List.range (rowsN (.row kp e t::l))).map (b+ ·)=b::(List.range (rowsN l)).map (b+1+ ·):=by
    rw [rowsN_range,Nat.add_comm];rfl
   rw [hr]
   refine ⟨by simp only [stE,List.map_cons,z1],by simp only [nvF,List.map_cons,z2],by simp only [nvF,List.flatMap_cons,← z3],fun p hp=> ?_,fun i hi=> ?_,fun p hp=> ?_,fun s ν L h1 h2 h3=> ?_⟩
   · rcases List.mem_cons.1 hp with rfl | hp
     · rfl
     · exact z4 p hp
   · cases kp with
     | true =>
       rcases List.mem_cons.1 (show i∈b::fxF l (b+1) from hi) with rfl | hi
       · exact ⟨_,List.mem_cons_self,rfl⟩
       · obtain ⟨b',y1,y2⟩:=z5 i hi
         exact ⟨b',List.mem_cons_of_mem _ y1,y2⟩
     | false =>
       obtain ⟨b',y1,y2⟩:=z5 i hi
       exact ⟨b',List.mem_cons_of_mem _ y1,y2⟩
   · rcases List.mem_cons.1 hp with rfl | hp
     · exact (own_ref f1).1
     · exact z6 p hp
   · have h0:=h1 (b,u) List.mem_cons_self
     obtain ⟨y1,y2⟩:=z7 s ν L (fun p hp=>h1 p (List.mem_cons_of_mem _ hp)) h2 (fun k hk=>h3 k (List.mem_append_right _ hk))
     have hm : ∀ k,blk u=some k→Mine s (lq kp) k:=fun k hk=>by
      have:k∈s.io:=h3 k (List.mem_append_left _ (by rw [hk];simp))
      cases kp<;>exact .inr this
     refine ⟨⟨⟨h0.2,by rw [h0.1];exact (own_ref f1).1.symm⟩,y1⟩,fun p hp=> ?_⟩
     rcases List.mem_cons.1 hp with rfl | hp
     · refine ⟨⟨inner, ?_,f2.imp_ fun _ _ z=>z.move h2⟩,fun k hk=>hm k ((congrArg blk (show _=ν b from h0.1.symm)).trans hk)⟩
       rw [h0.1]
       exact own_up f1 fun k hk=>bs_le (hm k hk)
     · exact y2 p hp
theorem begP {U:Nat→Prop} : ∀ {ps:List PK} {x:PT ps} {vs:List Value} {bl:List Nat} (b:Nat),ParR U w ps x vs bl →
 (ioE ps x b).map (·.1)=(List.range (namesN ps)).map (b+ ·)∧(nvP w ps vs b).map (·.1)=(List.range (namesN ps)).map (b+ ·)∧bl=(nvP w ps vs b).flatMap (fun p=>(blk p.2).toList)∧(∀ p∈ioE ps x b,isGone p.2=false) ∧
 (∀ i∈fxP ps b,∃ b',(i,b')∈ioE ps x b∧isFx b'=true)∧vs.length=ps.length ∧
 ∀ (s:St) (ν:Nat→Value) (L:Nat→Prop),(∀ p∈nvP w ps vs b,ν p.1=p.2∧L p.1)→Move U w w (Un U ν L)→(∀ k∈bl,k∈s.io)→(∀ (i:Nat) (y:AV),(ioV ps x b)[i]? =some y→ ∃ v:Value,vs[i]? =some v∧RelV U ν L w y v)∧ ∀ p∈ioE ps x b,RelB U ν L s w p.1 p.2
 | [],x,vs,bl,b,h=>by
   obtain ⟨rfl,rfl⟩:=h
   exact ⟨rfl,rfl,rfl,fun p hp=>by simp [ioE] at hp,fun i hi=>by simp [fxP] at hi,rfl,fun s ν L _ _ _=>⟨fun i y hy=>by simp [ioV] at hy,fun p hp=>by simp [ioE] at hp⟩⟩
 | .ty t::l,x,[],bl,b,h=>h.elim
 | .st e fs::l,x,[],bl,b,h=>h.elim
 | .bor e t::l,x,[],bl,b,h=>h.elim
 | .ty t::l,x,v::vs,bl,b,h=>by
   obtain ⟨⟨cs,q1,q2⟩,q3⟩:=h
   obtain ⟨z1,z2,z3,z4,z5,z6,z7⟩:=begP b q3
   refine ⟨z1,z2,z3,z4,z5,congrArg (· +1) z6,fun s ν L h1 h2 h3=> ?_⟩
   obtain ⟨y1,y2⟩:=z7 s ν L h1 h2 h3
   refine ⟨fun i y hy=> ?_,y2⟩
   cases i with
   | zero =>
     simp only [ioV,List.getElem?_cons_zero] at hy
     injection hy with hy
     subst hy
     exact ⟨v,rfl,cs,q1,expl_rel t x.1 (q2.move h2)⟩
   | succ i =>
     simp only [ioV,List.getElem?_cons_succ] at hy
     exact y1 i y hy
 | .st e fs::l,x,v::vs,bl,b,h=>by
   obtain ⟨g,us,b1,b2,rfl,hg,f1,rfl,f2⟩:=h
   have hus:cellsW w (.pointer (some ⟨g,0,none⟩))=us:=by unfold cellsW;simp [hg]
   obtain ⟨y1,y2,y3,y4,y5,y6,y7⟩:=begF (b+1) f1
   obtain ⟨z1,z2,z3,z4,z5,z6,z7⟩:=begP (b+(1+rowsN fs)) f2
   have hr:(List.range (namesN (.st e fs::l))).map (b+ ·)=b::((List.range (rowsN fs)).map (b+1+ ·)++(List.range (namesN l)).map (b+(1+rowsN fs)+ ·)):=by
    rw [← List.cons_append,rowsN_range]
    exact range_app b _ _
   have hnv:nvP w (.st e fs::l) (.pointer (some ⟨g,0,none⟩)::vs) b=(b, .pointer (some ⟨g,0,none⟩))::(nvF fs us (b+1)++nvP w l vs (b+(1+rowsN fs))):=by simp only [nvP,hus]
   rw [hr,hnv]
   refine ⟨by simp only [ioE,List.map_cons,List.map_append,y1,z1],by simp only [List.map_cons,List.map_append,y2,z2], ?_,fun p hp=> ?_,fun i hi=> ?_,congrArg (· +1) z6,fun s ν L h1 h2 h3=> ?_⟩
   · rw [List.flatMap_cons,List.flatMap_append,← y3,← z3]
     rfl
   · rcases List.mem_cons.1 hp with rfl | hp
     · rfl
     · exact (List.mem_append.1 hp).elim (y4 p) (z4 p)
   · rcases List.mem_cons.1 hi with rfl | hi
     · exact ⟨_,List.mem_cons_self,rfl⟩
     · rcases List.mem_append.1 hi with hi | hi
       · obtain ⟨b',q1,q2⟩:=y5 i hi
         exact ⟨b',List.mem_cons_of_mem _ (List.mem_append_left _ q1),q2⟩
       · obtain ⟨b',q1,q2⟩:=z5 i hi
         exact ⟨b',List.mem_cons_of_mem _ (List.mem_append_right _ q1),q2⟩
   · have h0:=h1 (b, .pointer (some ⟨g,0,none⟩)) List.mem_cons_self
     obtain ⟨r1,r2⟩:=y7 s ν L (fun p hp=>h1 p (List.mem_cons_of_mem _ (List.mem_append_left _ hp))) h2 (fun k hk=>h3 k (List.mem_cons_of_mem _ (List.mem_append_left _ hk)))
     obtain ⟨s1,s2⟩:=z7 s ν L (fun p hp=>h1 p (List.mem_cons_of_mem _ (List.mem_append_right _ hp))) h2 (fun k hk=>h3 k (List.mem_cons_of_mem _ (List.mem_append_right _ hk)))
     refine ⟨fun i y hy=> ?_,fun p hp=> ?_⟩
     · cases i with
       | zero =>
         simp only [ioV,List.getElem?_cons_zero] at hy
         injection hy with hy
         subst hy
         exact ⟨_,rfl,of_one (c:= .ptr b 0) ⟨h0.2,g,h0.1,rfl⟩⟩
       | succ i =>
         simp only [ioV,List.getElem?_cons_succ] at hy
         exact s1 i y hy
     · rcases List.mem_cons.1 hp with rfl | hp
       · exact ⟨g,us,h0.1, .inr (h3 g List.mem_cons_self),hg,r1⟩
       · exact (List.mem_append.1 hp).elim (r2 p) (s2 p)
 | .bor e t::l,x,v::vs,bl,b,h=>by
   obtain ⟨inner,b2,f1,f2,rfl,f3⟩:=h
   obtain ⟨z1,z2,z3,z4,z5,z6,z7⟩:=begP (b+1) f3
   have hr:(List.range (namesN (.bor e t::l))).map (b+ ·)=b::(List.range (namesN l)).map (b+1+ ·):=(rowsN_range b _).symm
   rw [hr]
   refine ⟨by simp only [ioE,List.map_cons,z1],by simp only [nvP,List.map_cons,z2],by simp only [nvP,List.flatMap_cons,← z3],fun p hp=> ?_,fun i hi=> ?_,congrArg (· +1) z6,fun s ν L h1 h2 h3=> ?_⟩
   · rcases List.mem_cons.1 hp with rfl | hp
     · rfl
     · exact z4 p hp
   · rcases List.mem_cons.1 hi with rfl | hi
     · exact ⟨_,List.mem_cons_self,rfl⟩
     · obtain ⟨b',q1,q2⟩:=z5 i hi
       exact ⟨b',List.mem_cons_of_mem _ q1,q2⟩
   · have h0:=h1 (b,v) List.mem_cons_self
     obtain ⟨s1,s2⟩:=z7 s ν L (fun p hp=>h1 p (List.mem_cons_of_mem _ hp)) h2 (fun k hk=>h3 k (List.mem_append_right _ hk))
     have hm : ∀ k,blk v=some k→Mine s .kept k:=fun k hk=> .inr (h3 k (List.mem_append_left _ (by rw [hk];simp)))
     refine ⟨fun i y hy=> ?_,fun p hp=> ?_⟩
     · cases i with
       | zero =>
         simp only [ioV,List.getElem?_cons_zero] at hy
         injection hy with hy
         subst hy
         exact ⟨_,rfl,of_one (c:= .own b) ⟨h0.2,by rw [h0.1];exact (own_ref f1).1.symm⟩⟩
       | succ i =>
         simp only [ioV,List.getElem?_cons_succ] at hy
         exact s1 i y hy
     · rcases List.mem_cons.1 hp with rfl | hp
       · refine ⟨⟨inner, ?_,f2.imp_ fun _ _ z=>z.move h2⟩,fun k hk=>hm k ((congrArg blk (show _=ν b from h0.1.symm)).trans hk)⟩
         rw [h0.1]
         exact own_up f1 fun k hk=>bs_le (hm k hk)
       · exact s2 p hp
theorem mt_left {U:Nat→Prop} {cs cs':List AC} (h:MayTell U ν hp (cs++cs')):MayTell U ν hp cs:=fun j e t xs hj=>h j e t xs (List.mem_append_left _ hj)
theorem mt_right {U:Nat→Prop} {cs cs':List AC} (h:MayTell U ν hp (cs++cs')):MayTell U ν hp cs':=fun j e t xs hj=>h j e t xs (List.mem_append_right _ hj)
theorem endC_ok (I:Inv U0 ν tm hp w0 a w) {U:Nat→Prop} (hU : ∀ k,k<w.heap.size→U k→Un U0 ν (lv hp) k) : ∀ {fs:List FK} {cs:List AC} {y:FT fs} {ids:List Nat} {us us':List Value} (b:Nat),endC hp fs cs b=some (y,ids)→All2 (RelC U0 ν (lv hp) w) cs us'→MayTell U ν hp (toldF fs cs)→(∀ p∈nvF fs us b,p.1∈fxF fs b→ν p.1=p.2)→FldR U w fs y us' (bls ν ids)∧(∀ j∈ids,lv hp j)∧KeptF fs us us'
 | [],[],y,ids,us,us',b,h,hr,hm,hk=>by
   simp only [endC] at h
   injection h with h
   injection h with _ h
   subst h
   have:us'= []:=by
    cases us' with
    | nil=>rfl
    | cons _ _=>exact hr.elim
   exact ⟨⟨this,rfl⟩,fun j hj=>by simp at hj,trivial⟩
 | [],_::_,y,ids,us,us',b,h,hr,hm,hk=>by simp [endC] at h
 | .ty t::l,cs,y,ids,us,us',b,h,hr,hm,hk=>by
   simp only [endC] at h
   split at h
   · rename_i x cs' hx
     split at h
     · rename_i y' ids' hy
       injection h with h
       injection h with h1 h2
       subst h1 h2
       obtain ⟨rfl,_⟩:=toT_len hx
       obtain ⟨q1,q2⟩:=toT_rel1 I hU (mt_left hm) hx hr
       have e3:nvF (.ty t::l) us b=nvF l (us.drop t.size) b:=by simp only [nvF]
       rw [e3] at hk
       obtain ⟨z1,z2,z3⟩:=endC_ok I hU (us:=us.drop t.size) b hy q2 (mt_right hm) hk
       exact ⟨⟨_,_,(List.take_append_drop t.size us').symm,q1,z1⟩,z2,z3⟩
     · cases h
   · cases h
 | .row kp e t::l,[],y,ids,us,us',b,h,hr,hm,hk=>by cases kp<;>simp [endC] at h
 | .row kp e t::l,c::cs,y,ids,us,[],b,h,hr,hm,hk=>hr.elim
 | .row true e t::l,c::cs,y,ids,us,u::us',b,h,hr,hm,hk=>by
   cases c with
   | own j =>
     simp only [endC] at h
     split at h
     · rename_i hj
       subst hj
       split at h
       · rename_i e' t' xs hb
         split at h
         · rename_i q
           obtain ⟨rfl,rfl⟩:=q
           split at h
           · rename_i y' ids' hy
             injection h with h
             injection h with h1 h2
             subst h1 h2
             obtain ⟨⟨inner,y1,y2⟩,y3⟩:=I.mem j _ hb rfl
             have hu:u=ν j:=hr.1.2.trans (own_ref y1).1
             obtain ⟨z1,z2,z3⟩:=endC_ok I hU (us:=us.drop 1) (j+1) hy hr.2 hm (fun p hp hp2=>by
              cases us with
              | nil=>rw [List.drop_nil,nvF_nil] at hp;simp at hp
              | cons u0 us=>exact hk p (List.mem_cons_of_mem _ hp) (List.mem_cons_of_mem _ hp2))
             refine ⟨⟨inner,_,by rw [hu];exact own_zero y1,y2.imp_ fun _ _ z=>z.move ⟨Nat.le_refl _,fun _ _ _=>rfl,fun k hk hu=>hU k hk hu⟩,by rw [hu];rfl,z1⟩,fun i hi=> ?_, ?_⟩
             · rcases List.mem_cons.1 hi with rfl | hi
               · exact ⟨_,hb,rfl⟩
               · exact z2 i hi
             · cases us with
               | nil=>trivial
               | cons u0 us=>exact ⟨by rw [hu];exact hk (j,u0) List.mem_cons_self List.mem_cons_self,z3⟩
           · cases h
         · cases h
       · cases h
     · cases h
   | _=>simp [endC] at h
 | .row false e t::l,c::cs,y,ids,us,u::us',b,h,hr,hm,hk=>by
   have hk' : ∀ p∈nvF l (us.drop 1) (b+1),p.1∈fxF l (b+1)→ν p.1=p.2:=fun p hp hp2=>by
    cases us with
    | nil=>rw [List.drop_nil,nvF_nil] at hp;simp at hp
    | cons u0 us=>exact hk p (List.mem_cons_of_mem _ hp) hp2
   have hkp:KeptF l (us.drop 1) us'→KeptF (.row false e t::l) us (u::us'):=fun h=>by
    cases us with
    | nil=>trivial
    | cons u0 us=>exact h
   cases c with
   | nils =>
     simp only [endC] at h
     split at h
     · rename_i y' ids' hy
       injection h with h
       injection h with h1 h2
       subst h1 h2
       obtain ⟨z1,z2,z3⟩:=endC_ok I hU (us:=us.drop 1) (b+1) hy hr.2 hm hk'
       have hu:u= .slice none 0 0:=hr.1
       subst hu
       exact ⟨⟨[],_,World.ownsRow_nil w _ _ _,Reps.none _ _,rfl,z1⟩,z2,hkp z3⟩
     · cases h
   | own j =>
     simp only [endC] at h
     split at h
     · rename_i lq' e' t' xs hb
       split at h
       · rename_i q
         obtain ⟨rfl,rfl⟩:=q
         split at h
         · cases h
         · split at h
           · rename_i y' ids' hy
             injection h with h
             injection h with h1 h2
             subst h1 h2
             obtain ⟨⟨inner,y1,y2⟩,y3⟩:=I.mem j _ hb rfl
             have hu:u=ν j:=hr.1.2.trans (own_ref y1).1
             obtain ⟨z1,z2,z3⟩:=endC_ok I hU (us:=us.drop 1) (b+1) hy hr.2 hm hk'
             refine ⟨⟨inner,_,by rw [hu];exact own_zero y1,y2.imp_ fun _ _ z=>z.move ⟨Nat.le_refl _,fun _ _ _=>rfl,fun k hk hu=>hU k hk hu⟩,by rw [hu];rfl,z1⟩,fun i hi=> ?_,hkp z3⟩
             rcases List.mem_cons.1 hi with rfl | hi
             · exact ⟨_,hb,rfl⟩
             · exact z2 i hi
           · cases h
       · cases h
     · cases h
   | _=>simp [endC] at h
theorem endP_ok (I:Inv U0 ν tm hp w0 a w') {U V:Nat→Prop} (hU : ∀ k,k<w'.heap.size→U k→Un U0 ν (lv hp) k) : ∀ {ps:List PK} {x:PT ps} {y:ET ps} {ids:List Nat} {vs:List Value} {bl:List Nat} (b:Nat),ParR V w ps x vs bl→endP hp ps b=some (y,ids)→MayTell U ν hp (toldE hp ps b)→(∀ p∈nvP w ps vs b,p.1∈fxP ps b→ν p.1=p.2)→EndR U w w' ps y vs (bls ν ids)∧ ∀ j∈ids,lv hp j
 | [],x,y,ids,vs,bl,b,hp0,h,hm,hk=>by
   simp only [endP] at h
   injection h with h
   injection h with _ h
   subst h
   exact ⟨⟨hp0.1,rfl⟩,fun j hj=>by simp at hj⟩
 | .ty t::l,x,y,ids,[],bl,b,hp0,h,hm,hk=>hp0.elim
 | .st e fs::l,x,y,ids,[],bl,b,hp0,h,hm,hk=>hp0.elim
 | .bor e t::l,x,y,ids,[],bl,b,hp0,h,hm,hk=>hp0.elim
 | .ty t::l,x,y,ids,v::vs,bl,b,hp0,h,hm,hk=>endP_ok I hU (ps:=l) (vs:=vs) b hp0.2 h hm hk
 | .st e fs::l,x,y,ids,v::vs,bl,b,hp0,h,hm,hk=>by
   obtain ⟨g,us,b1,b2,rfl,hg,f1,rfl,f2⟩:=hp0
   have hus:cellsW w (.pointer (some ⟨g,0,none⟩))=us:=by unfold cellsW;simp [hg]
   have hnv:nvP w (.st e fs::l) (.pointer (some ⟨g,0,none⟩)::vs) b=(b, .pointer (some ⟨g,0,none⟩))::(nvF fs us (b+1)++nvP w l vs (b+(1+rowsN fs))):=by simp only [nvP,hus]
   rw [hnv] at hk
   have h0:=hk (b, .pointer (some ⟨g,0,none⟩)) List.mem_cons_self List.mem_cons_self
   simp only [endP] at h
   split at h
   · rename_i e' cs hb
     split at h
     · rename_i he
       subst he
       split at h
       · rename_i x1 ids1 hx1
         split at h
         · rename_i y1 ids2 hy1
           injection h with h
           injection h with h1 h2
           subst h1 h2
           obtain ⟨g',vs',c1,c2,c3,c4,c5⟩:=I.cells hb
           have h0:ν b= .pointer (some ⟨g,0,none⟩):=h0
           rw [h0] at c1
           injection c1 with c1
           injection c1 with c1
           injection c1 with c1
           subst c1
           have hm1:MayTell U ν hp (toldF fs cs):=by
            have:=mt_left (cs:=_) (cs':=_) hm
            rw [hb] at this
            exact this
           obtain ⟨z1,z2,z3⟩:=endC_ok I hU (us:=us) (b+1) hx1 c4 hm1 (fun p hp hp2=>hk p (List.mem_cons_of_mem _ (List.mem_append_left _ hp)) (List.mem_cons_of_mem _ (List.mem_append_left _ hp2)))
           obtain ⟨q1,q2⟩:=endP_ok I hU (ps:=l) (vs:=vs) (b+(1+rowsN fs)) f2 hy1 (mt_right hm) (fun p hp hp2=>hk p (List.mem_cons_of_mem _ (List.mem_append_right _ hp)) (List.mem_cons_of_mem _ (List.mem_append_right _ hp2)))
           refine ⟨⟨g,us,vs',_,_,rfl,hg,c3,z1,z3, ?_,q1⟩,fun i hi=> ?_⟩
           · unfold bls
             rw [List.flatMap_cons,List.flatMap_append,h0]
             rfl
           · rcases List.mem_cons.1 hi with rfl | hi
             · exact ⟨_,hb,rfl⟩
             · exact (List.mem_append.1 hi).elim (z2 i) (q2 i)
         · cases h
       · cases h
     · cases h
   · cases h
 | .bor e t::l,x,y,ids,v::vs,bl,b,hp0,h,hm,hk=>by
   obtain ⟨inner,b2,f1,f2,rfl,f3⟩:=hp0
   have h0:ν b=v:=hk (b,v) List.mem_cons_self List.mem_cons_self
   simp only [endP] at h
   split at h
   · rename_i e' t' xs hb
     split at h
     · rename_i q
       obtain ⟨rfl,rfl⟩:=q
       split at h
       · rename_i y1 ids2 hy1
         injection h with h
         injection h with h1 h2
         subst h1 h2
         obtain ⟨⟨inner',y1,y2⟩,y3⟩:=I.mem b _ hb rfl
         obtain ⟨q1,q2⟩:=endP_ok I hU (ps:=l) (vs:=vs) (b+1) f3 hy1 hm (fun p hp hp2=>hk p (List.mem_cons_of_mem _ hp) (List.mem_cons_of_mem _ hp2))
         rw [h0] at y1
         refine ⟨⟨inner',_,own_zero y1,y2.imp_ fun _ _ z=>z.move ⟨Nat.le_refl _,fun _ _ _=>rfl,fun k hk hu=>hU k hk hu⟩, ?_,q1⟩,fun i hi=> ?_⟩
         · show bls ν (b::ids2)=_
           unfold bls
           rw [List.flatMap_cons,h0]
         · rcases List.mem_cons.1 hi with rfl | hi
           · exact ⟨_,hb,rfl⟩
           · exact q2 i hi
       · cases h
     · cases h
   · cases h
theorem ioV_len : ∀ {ps:List PK} {x:PT ps} {b:Nat},(ioV ps x b).length=ps.length
 | [],_,_=>rfl
 | .ty t::l,x,b=>congrArg (· +1) ioV_len
 | .st e fs::l,x,b=>congrArg (· +1) ioV_len
 | .bor e t::l,x,b=>congrArg (· +1) ioV_len
theorem fn_okI {g:FuncId} {fn:Func} {c:Code} {s:ISpec} {k k1 m:Nat} {Bt:Nat→List Nat} {C:Cuts (TT s.rs × ET s.ps)} (hm:P.follows .mixedOrders=true) (hΘ:Θ.ok P=true) (hS:SpecsOk P S k) (hf:P.funcs[g]? =some fn) (hb:fn.body=some c) (hc:codeB Bt c=true) (hn:s.ps.length≤fn.ntmps) (hM:fn.ntmps+namesN s.ps≤m) (hF:(fxP s.ps fn.ntmps).all (fun j=>C.N.f.contains j)=true)
 (hl:obs Θ S Bt C c 0 (K0I Θ s.rs fn.results.toList s.ps fn.ntmps) True) (hd : ∀ x r,s.f k1 x=some r→(den Θ S Bt C c 0 (K0I Θ s.rs fn.results.toList s.ps fn.ntmps) k (tmI fn.ntmps s.ps x) (hpI fn.ntmps m s.ps x)).run=some r):IOk P g s k1:=by
 intro x r hr U w vs bl hU hpar hnd hblU
 obtain ⟨z1,z2,z3,z4,z5,z6,z7⟩:=begP (b:=fn.ntmps) hpar
 generalize hN:nvP w s.ps vs fn.ntmps=N at *
 have hrn:((List.range (namesN s.ps)).map (fn.ntmps+ ·)).Nodup:=by
  unfold List.Nodup
  rw [List.pairwise_map]
  exact List.nodup_range.imp fun h e=>h (Nat.add_left_cancel e)
 have hlt : ∀ i∈(List.range (namesN s.ps)).map (fn.ntmps+ ·),i<(List.replicate m AB.gone).length:=fun i hi=>by
  obtain ⟨q,hq,rfl⟩:=List.mem_map.1 hi
  have:=List.mem_range.1 hq
  rw [List.length_replicate]
  omega
 have hon : ∀ i b',(i,b')∈ioE s.ps x fn.ntmps→(hpI fn.ntmps m s.ps x)[i]? =some b':=fun i b' hi=>chs_on (hlt i (z1▸List.mem_map.2 ⟨_,hi,rfl⟩)) (z1▸hrn) hi
 have hoff : ∀ i,i ∉ N.map (·.1)→ ¬ lv (hpI fn.ntmps m s.ps x) i:=fun i hi ⟨b',q1,q2⟩=>by
  unfold hpI at q1
  rw [chs_off (by rw [z1,← z2];exact hi),List.getElem?_replicate] at q1
  split at q1
  · injection q1 with q1;subst q1;simp [isGone] at q2
  · cases q1
 have hinE : ∀ i∈N.map (·.1),∃ b',(i,b')∈ioE s.ps x fn.ntmps:=fun i hi=>by
  obtain ⟨p,hp,rfl⟩:=List.mem_map.1 (by rw [z1,← z2];exact hi:i∈(ioE s.ps x fn.ntmps).map (·.1))
  exact ⟨p.2,hp⟩
 have hν : ∀ p∈N,lookV N (fun _=>undef) p.1=p.2:=fun p hp=>lookV_on (z2▸hrn) hp
 have hL : ∀ i∈N.map (·.1),lv (hpI fn.ntmps m s.ps x) i:=fun i hi=>by
  obtain ⟨b',hb'⟩:=hinE i hi
  exact ⟨b',hon i b' hb',z4 _ hb'⟩
 have hun : ∀ q,Un U (lookV N fun _=>undef) (lv (hpI fn.ntmps m s.ps x)) q→U q:=fun q hq=>by
  rcases hq with hq | ⟨i,hi,hbi⟩
  · exact hq
  · by_cases him:i∈N.map (·.1)
    · obtain ⟨p,hp,rfl⟩:=List.mem_map.1 him
      rw [hν p hp] at hbi
      exact hblU q (by rw [z3];exact List.mem_flatMap.2 ⟨p,hp,by rw [hbi];simp⟩)
    · exact absurd hi (hoff i him)
 obtain ⟨y1,y2⟩:=z7 {toWorld:=w,io:=bl,fx:=(fxP s.ps fn.ntmps).map fun j=>(j,lookV N (fun _=>undef) j)} (lookV N fun _=>undef) (lv (hpI fn.ntmps m s.ps x)) (fun p hp=>⟨hν p hp,hL p.1 (List.mem_map.2 ⟨p,hp,rfl⟩)⟩) ⟨Nat.le_refl _,fun _ _ _=>rfl,fun q _ hq=>hun q hq⟩ (fun _ h=>h)
 rw [List.all_eq_true] at hF
 refine calls_of_wp hf hb ?_
 refine code_ok hm hΘ (w0:= {toWorld:=w,io:=bl,fx:=(fxP s.ps fn.ntmps).map fun j=>(j,lookV N (fun _=>undef) j)}) hU (fun p hp=> ?_) c k 0 _ _ _ hS hc hl ?_ k _ _ (Nat.le_refl _) (hd x r hr) (lookV N fun _=>undef) _ w ?_
 · obtain ⟨j,hj,rfl⟩:=List.mem_map.1 hp
   have:=hF j hj
   simpa using this
 · intro k' e tm hp hk' hK ν a w' I
   have fin:(endK Θ s.rs fn.results.toList s.ps fn.ntmps tm hp).run=some r→a.defers= []∧ ∃ v,(results fn a.tmps).run P w'= .ok v w'∧ ∃ v' bl',Ending.returned v= .returned v'∧ResR (fun q=>U q∨q∈bl') w' s.rs r.1 v'∧EndR (fun q=>U q∨q∈bl') w w' s.ps r.2 vs bl'∧bl'.Nodup∧(∀ q∈bl',(q∈bl∨w.heap.size≤q)∧q<w'.heap.size)∧But bl w w':=by
    intro h
    unfold endK at h
    split at h
    · rename_i rx hrx
      split at h
      · rename_i ry ids hry
        split at h
        · rename_i htold
          have h:some (rx,ry)=some r:=h
          injection h with h
          subst h
          simp only [toldOk,Bool.and_eq_true,List.all_eq_true,Bool.not_eq_true',List.contains_eq_mem,decide_eq_false_iff_not] at htold
          obtain ⟨t1,t2⟩:=htold
          have hids : ∀ j∈ids,lv hp j:=(endP_ok I (U:=fun _=>False) (fun _ _ z=>z.elim) fn.ntmps hpar hry (fun _ _ _ _ _ _ _ _ z=>z) (fun p hp hp2=>by
           have h0:=(I.fx (p.1,lookV N (fun _=>undef) p.1) (List.mem_map.2 ⟨p.1,hp2,rfl⟩)).1
           rw [hN] at hp
           rw [h0]
           exact hν p hp)).2
          have hUn : ∀ q,q<w'.heap.size→(U q∨q∈bls ν ids)→Un U ν (lv hp) q:=fun q _ hq=>by
           rcases hq with hq | hq
           · exact .inl hq
           · obtain ⟨j,hj,hb⟩:=bls_mem.1 hq
             exact .inr ⟨j,hids j hj,hb⟩
          have hmt : ∀ cs:List AC,(∀ j,AC.own j∈cs→j ∉ ids)→MayTell (fun q=>U q∨q∈bls ν ids) ν hp cs:=fun cs hcs j e t xs hj hb k hk hu=>by
           rcases hu with hu | hu
           · have h1:w.heap.size≤k:=I.lt_mine hb hk
             have:=hU k hu
             omega
           · obtain ⟨i,hi,hbi⟩:=bls_mem.1 hu
             exact I.dis i j (fun e=>hcs j hj (e▸hi)) (hids i hi) ⟨_,hb,rfl⟩ k hbi hk
          obtain ⟨us,e1,e2⟩:=resT_rel hΘ I (U:=fun q=>U q∨q∈bls ν ids) hUn (fun o ho=>hmt _ fun j hj=>t2 j (ownsC_mem (List.mem_append_left _ (List.mem_flatMap.2 ⟨o,ho,hj⟩)))) hrx
          obtain ⟨e3,_⟩:=endP_ok I (U:=fun q=>U q∨q∈bls ν ids) hUn fn.ntmps hpar hry (hmt _ fun j hj=>t2 j (ownsC_mem (List.mem_append_right _ hj))) (fun p hp hp2=>by
           have h0:=(I.fx (p.1,lookV N (fun _=>undef) p.1) (List.mem_map.2 ⟨p.1,hp2,rfl⟩)).1
           rw [hN] at hp
           rw [h0]
           exact hν p hp)
          refine ⟨I.defers,_,run_results e1,_,bls ν ids,rfl,⟨us,rfl,e2⟩,e3,bls_nodup I (nodupN_iff t1) hids,fun q hq=> ?_,⟨I.fr.os,I.fr.tape,I.fr.output,I.fr.size,fun k hk hk2=>I.fr.block k hk hk2⟩⟩
          obtain ⟨j,hj,hbj⟩:=bls_mem.1 hq
          have hlt:=I.lt (hids j hj) hbj
          exact ⟨hlt.2.symm,hlt.1⟩
        · cases h
      · cases h
    · cases h
   cases e with
   | normal=>exact fin hK
   | ret=>exact fin hK
   | exit id=>exact (Tree.non_run hK).elim
 · refine ⟨by simp [tmI,ioV_len,z6],fun i y hy=> ?_,fun j b h1 h2=> ?_,fun i j hij hi hj q h1 h2=> ?_,⟨rfl,rfl,rfl,Nat.le_refl _,fun _ _ _=>rfl⟩,fun p hp=> ?_,rfl⟩
   · unfold tmI at hy
     rw [List.getElem?_append] at hy
     split at hy
     · rename_i hi
       obtain ⟨v,hv,hR⟩:=y1 i y hy
       have:(vs.toArray++Array.replicate (fn.ntmps-vs.toArray.size) undef).getD i undef=v:=by
        have hlt:=(List.getElem?_eq_some_iff.1 hv).1
        rw [Array.getD_eq_getD_getElem?,Array.getElem?_append,if_pos (by simpa using hlt)]
        simp [hv]
       show RelV _ _ _ _ _ ((vs.toArray++Array.replicate (fn.ntmps-vs.toArray.size) undef).getD i undef)
       rw [this]
       exact hR
     · rw [List.getElem?_replicate] at hy
       split at hy
       · injection hy with hy;subst hy;trivial
       · cases hy
   · by_cases him:j∈N.map (·.1)
     · obtain ⟨b',hb'⟩:=hinE j him
       rw [hon j b' hb'] at h1
       injection h1 with h1
       subst h1
       exact y2 _ hb'
     · exact absurd ⟨b,h1,h2⟩ (hoff j him)
   · have in_ : ∀ {i},lv (hpI fn.ntmps m s.ps x) i→blk (lookV N (fun _=>undef) i)=some q→ ∃ p∈N,p.1=i∧blk p.2=some q:=fun {i} hi hb=>by
      by_cases him:i∈N.map (·.1)
      · obtain ⟨p,hp,rfl⟩:=List.mem_map.1 him
        rw [hν p hp] at hb
        exact ⟨p,hp,rfl,hb⟩
      · exact absurd hi (hoff i him)
     obtain ⟨p,a1,a2,a3⟩:=in_ hi h1
     obtain ⟨p',b1,b2,b3⟩:=in_ hj h2
     have:p=p':=flat_apart (z3▸hnd) a1 b1 (k:=q) (by rw [a3];simp) (by rw [b3];simp)
     exact hij (by rw [← a2,← b2,this])
   · obtain ⟨j,hj,rfl⟩:=List.mem_map.1 hp
     obtain ⟨b',q1,q2⟩:=z5 j hj
     exact ⟨rfl,b',hon j b' q1,q2⟩
end
theorem fi_of {P:Program} {Θ:Tab} {l:List (FuncId × FE)} {g:FuncId} {fn:Func} {c:Code} {s:ISpec} {m:Nat} {Bt:Nat→List Nat} {C:Cuts (TT s.rs × ET s.ps)} {A:Type} {q:A→TT s.rs × ET s.ps} {F:Nat→PT s.ps→Option A} (hm:P.follows .mixedOrders=true) (hΘ:Θ.ok P=true) (ho:Oks P l) (hf:P.funcs[g]? =some fn) (hb:fn.body=some c) (hc:codeB Bt c=true) (hn:s.ps.length≤fn.ntmps) (hg:bodied P g=true) (hM:fn.ntmps+namesN s.ps≤m) (hX:(fxP s.ps fn.ntmps).all (fun j=>C.N.f.contains j)=true)
 (hF : ∀ k x,s.f k x=(F k x).map q) (hl:obs Θ (look l) Bt C c 0 (K0I Θ s.rs fn.results.toList s.ps fn.ntmps) True) (hd : ∀ k x,LeT q (F k x) (fL (tmI fn.ntmps s.ps x) fun tm=>fH (hpI fn.ntmps m s.ps x) fun hp=>den Θ (look l) Bt C c 0 (K0I Θ s.rs fn.results.toList s.ps fn.ntmps) k tm hp)):FIk P g s :=
 ⟨hg,fun k=>fn_okI hm hΘ (look_okK (Oks.upTo ho)) hf hb hc hn hM hX hl fun x r hr=>by
   rw [hF] at hr
   obtain ⟨a,ha,rfl⟩:=Option.map_eq_some_iff.1 hr
   have h2:=hd k x
   unfold LeT at h2
   have:=h2 a ha
   rw [fL_eq,fH_eq] at this
   exact this⟩
end Go.Proofs.YtjocbnjpjihpnaaGreatW.Abs

end
section
namespace Go.Proofs.YtjocbnjpjihpnaaGreatW.Abs
open Go.RowKit Go.Proofs.YtjocbnjpjihpnaaGreatW.PrintWords Go.Proofs.YtjocbnjpjihpnaaGreatW.PrintLast Go.Proofs.YtjocbnjpjihpnaaGreatW.PrintMore
set_option linter.unusedVariables false

theorem tdiv_nn {x c:Int} (h:0≤x):Int.tdiv x c=x/c:=Int.tdiv_eq_ediv_of_nonneg h
theorem tmod_nn {x c:Int} (h:0≤x):Int.tmod x c=x%c:=Int.tmod_eq_emod_of_nonneg h
theorem u64_id {y:Int} (h:0≤y) (h1:y<18446744073709551616):IntKind.u64.wrap y=y:=by rw [IntKind.wrap_u64];omega
theorem i64_id {y:Int} (h : -9223372036854775808≤y) (h1:y<9223372036854775808):wrap64 y=y:=by unfold wrap64;omega
theorem shl_one {x:Int} :shl .u64 x 1=IntKind.u64.wrap (x*2):=rfl
theorem shl_mn {x a:Int} :shl .u64 x (mn a 10)=IntKind.u64.wrap (x*2^(mn a 10).toNat):=by
 have:(mn a 10).toNat≤10:=by unfold mn;split<;>omega
 unfold shl
 rw [Nat.min_eq_left (by show (mn a 10).toNat≤64;omega)]
theorem wr_z:wr .i64 (-0)= -0:=i64_id (by omega) (by omega)
section
variable {A B C R:Type} {m:A→R}
theorem by_ {c:Prop} (h:c:=by first
 | assumption
 | exact rfl
 | (simp [wr, *];done)
 | (simp_all [wr];done)
 | (simp_all [wr,rd,dflt];done)
 | (dsimp only;simp only [List.length_append,List.length_cons,List.length_nil,List.length_set,List.length_replicate,List.length_take,List.length_drop] at *;omega)
 | (simp (disch:=first | omega | (simp only [mx,mn];(repeat' split)<;>omega) | fail) only [wr,shr,shl,tdiv_nn,tmod_nn,u64_id,i64_id,IntKind.wrap_u8,rd,dflt,IntKind.bits,decide_eq_true_eq,decide_eq_false_iff_not,beq_iff_eq,bne_iff_ne] at *;first | done | omega | (simp only [List.length_append,List.length_cons,List.length_nil,List.length_set,List.length_replicate,List.length_take,List.length_drop] at *;omega))
 | (simp (disch:=first | omega | (simp only [mx,mn];(repeat' split)<;>omega) | fail) [wr,shr,shl,tdiv_nn,tmod_nn,u64_id,i64_id,IntKind.wrap_u8,rd,dflt,IntKind.bits, *];done)
 | (simp_all (disch:=first | omega | (simp only [mx,mn];(repeat' split)<;>omega) | fail) [wr,shr,shl,tdiv_nn,tmod_nn,u64_id,i64_id,IntKind.wrap_u8,rd,dflt,IntKind.bits];done)
 | (simp only [wr,wrap64,mn,mx] at *;(repeat' split)<;>omega)
 | (simp only [wr,shl_one,shl_mn,Int.zero_sub] at *;first | done | (simp [*];done))
 | fail):c:=h
theorem LeT.p {c:Prop} [d:Decidable c] {X:Option A} {Y Z:Tree R} (h:c) (k:LeT m X Y):LeT m X (.tst c Y Z):=LeT.tstp h k
theorem LeT.n {c:Prop} [d:Decidable c] {X:Option A} {Y Z:Tree R} (h : ¬ c) (k:LeT m X Z):LeT m X (.tst c Y Z):=LeT.tstn h k
theorem eqs {D:Type} {x y:Option B} {q:B→D} (h:x=y):x.map q=y.map q:=congrArg _ h
theorem LeT.t {x:Option A} {y:Option R} (h:x.map m=y:=by first | exact rfl | exact eqs (if_pos by_).symm | (refine eqs ?_;congr 1<;>exact by_) | (refine eqs (Eq.trans ?_ (if_pos by_).symm);congr 1<;>exact by_)):LeT m x (.cll y .done):=LeT.tail h
theorem LeT.c {x:Option B} {q:B→C} {y:Option C} {F:B→Option A} {G:C→Tree R} (h : ∀ t,x=some t→LeT m (F t) (G (q t))) (hy:x.map q=y:=by first | exact rfl | (rw [← Int.zero_sub];exact rfl) | (simp only [wr,shl_one,shl_mn,Int.zero_sub];exact rfl) | (refine eqs ?_;congr 1<;>exact by_)):LeT m (x.bind F) (.cll y G):=LeT.call hy h
theorem LeT.ag {x:Option B} {t:B} {q:B→C} {y:Option C} {X:Option A} {G:C→Tree R} (hy:x.map q=y) (hx:x=some t) (h:LeT m X (G (q t))):LeT m X (.cll y G):=LeT.again hx hy h
theorem LeT.sb {a:B} {F:B→Option A} {y:Tree R} (h:LeT m (F a) y):LeT m ((some a).bind F) y:=h
theorem LeT.d {a:A} {r:R} (h:r=m a:=by first | exact rfl | (simp [wr, *];done) | (rw [wr_z];exact rfl) | (simp only [wr,Int.zero_sub];exact rfl) | (refine congrArg _ ?_;exact by_)):LeT m (some a) (.done r):=LeT.now h
end
theorem LeT.it {A R:Type} {m:A→R} {c:Prop} {X Y:Option A} {Z U:Tree R} [d:Decidable c] [d1:Decidable c] (h1:c→LeT m X Z) (h2 : ¬ c→LeT m Y U):LeT m (if c then X else Y) (.tst c Z U):=LeT.ite (fun h=>LeT.p h (h1 h)) (fun h=>LeT.n h (h2 h))
theorem LeT.ip {A R:Type} {m:A→R} {c:Prop} {X Y:Option A} {Z:Tree R} [d:Decidable c] (h:c) (k:LeT m X Z):LeT m (if c then X else Y) Z:=by rw [if_pos h];exact k
theorem LeT.ir {A R:Type} {m:A→R} {c:Prop} {X Y:Option A} {Z:Tree R} [d:Decidable c] (h : ¬ c) (k:LeT m Y Z):LeT m (if c then X else Y) Z:=by rw [if_neg h];exact k
theorem go {p:Prop} (h:p:=by
 (conv=>arg 3;whnf)
 repeat' (first | exact LeT.none | exact LeT.d | exact LeT.t | (with_reducible refine LeT.sb ?_) | (refine LeT.c fun t ht=> ?_;conv=>arg 3;whnf) | (refine LeT.p by_ ?_;conv=>arg 3;whnf) | (refine LeT.n by_ ?_;conv=>arg 3;whnf) | (refine LeT.ip (by first | assumption | exact rfl | (simp [wr, *];done) | fail) ?_) | (refine LeT.ir (by first | assumption | exact rfl | (simp [wr, *];done) | fail) ?_) | (refine LeT.ag rfl (by assumption) ?_;conv=>arg 3;whnf) | refine LeT.ite (fun h=> ?_) (fun h=> ?_))):p:=h
theorem goq {p:Prop} (h:p:=by
 (conv=>arg 3;whnf)
 repeat' (first | exact LeT.none | exact LeT.now rfl | exact LeT.tail rfl | (with_reducible refine LeT.sb ?_) | (refine LeT.call (by first | exact rfl | (rw [← Int.zero_sub];exact rfl) | (simp only [wr,shl_one,shl_mn,Int.zero_sub];exact rfl)) fun t ht=> ?_;conv=>arg 3;whnf) | (refine LeT.p (by first | assumption | exact rfl | (simp [wr, *];done) | fail) ?_;conv=>arg 3;whnf) | (refine LeT.n (by first | assumption | exact rfl | (simp [wr, *];done) | fail) ?_;conv=>arg 3;whnf) | (refine LeT.it (fun h=> ?_) (fun h=> ?_)<;>(conv=>arg 3;whnf)) | (refine LeT.ip (by first | assumption | exact rfl | (simp [wr, *];done) | fail) ?_) | (refine LeT.ir (by first | assumption | exact rfl | (simp [wr, *];done) | fail) ?_) | (refine LeT.ag rfl (by assumption) ?_;conv=>arg 3;whnf) | refine LeT.ite (fun h=> ?_) (fun h=> ?_) | (refine LeT.p (by first | (simp_all [wr];done) | (simp only [wr,shl_one,shl_mn,decide_eq_true_eq];omega) | fail) ?_;conv=>arg 3;whnf) | (refine LeT.n (by first | (simp_all [wr];done) | (simp only [wr,shl_one,shl_mn,decide_eq_true_eq];omega) | fail) ?_;conv=>arg 3;whnf))):p:=h
end Go.Proofs.YtjocbnjpjihpnaaGreatW.Abs

end
section
namespace Go.Proofs.YtjocbnjpjihpnaaGreatW.Abs
open Go.RowKit Go.Proofs.YtjocbnjpjihpnaaGreatW.PrintWords Go.Proofs.YtjocbnjpjihpnaaGreatW.PrintLast Go.Proofs.YtjocbnjpjihpnaaGreatW.PrintMore
set_option linter.unusedVariables false

section
variable {U:Nat→Prop} {w w':World} {e:TypeId} {k:IntKind}
theorem row_arg {xs:List Int} {cs:List Value} (h:Rd U w (.row e (.int k)) xs cs) : ∃ A c,cs= [.slice A xs.length c]∧Kd.C (Kd.int k) w A xs.length xs∧xs.length≤c:=by
 obtain ⟨A,c,h1,h2,h3⟩:=h.K
 exact ⟨A,c,h1,h3,h2⟩
theorem row_rd {A:Option Addr} {c:Nat} {xs:List Int} (hc:Kd.C (Kd.int k) w A xs.length xs) (hl:xs.length≤c):Rd (fun _=>False) w (.row e (.int k)) xs [.slice A xs.length c]:=by
 refine ⟨A,c,rfl,hl,hc.2.1,fun hn=> ?_⟩
 obtain ⟨ad,ha,hcell⟩:=hc.2.2 hn
 refine ⟨ad,ha,fun j p hp=>⟨[.int k p],rfl,fun i u hu W hs hb=> ?_⟩⟩
 obtain ⟨c',hc1,hc2,hc3⟩:=hcell j p hp
 have hc2:c'= [.int k p]:=hc2
 subst hc2
 have h:w.cell? (ad.add (j*(Ty.int k).size+i))=some u:=hc3 i u hu
 have hlt:=World.block_lt_of_cell? w _ h
 show W.cell? (ad.add (j*(Ty.int k).size+i))=some u
 rw [← h]
 unfold World.cell?
 rw [hb _ hlt (fun q=>q)]
theorem res_bool {r:Bool} {v:Value} (h:ResR U w [.bool] (r,()) v):v= .bool r:=by
 obtain ⟨us,rfl,h⟩:=h
 match us,h with
 | [u],⟨⟨cs,h1,h2⟩,_⟩ =>
   have h2:cs= [.bool r]:=h2
   subst h2
   exact h1
theorem ArgR.cons {t:Ty} {ts:List Ty} {x:TT (t::ts)} {vs:List Value} (h:ArgR U w (t::ts) x vs) : ∃ cs vs',vs=mkV cs::vs'∧Rd U w t x.1 cs∧ArgR U w ts x.2 vs':=by
 cases vs with
 | nil=>exact h.elim
 | cons v vs=>obtain ⟨⟨cs,rfl,h1⟩,h2⟩:=h;exact ⟨cs,vs,rfl,h1,h2⟩
theorem new_res {U':Nat→Prop} {n:Nat} {ok:Nat→Prop} {xs:List Int} {v:Value} (h:Kd.R (Kd.int k) e w' n ok v xs) : ∃ inner,w'.ownsRow n e (kd (.int k)).sz v xs.length inner∧Reps (fun y c=>Rd U' w' (.int k) y c) (kd (.int k)).sz xs inner:=by
 obtain ⟨_,inner,ho,hr⟩:=h
 exact ⟨inner,ho,hr.imp_ fun _ _ z=>z⟩
end
end Go.Proofs.YtjocbnjpjihpnaaGreatW.Abs

end
