/- Words for walks over printed functions: those that are used here, as a program has laid them. -/
import Derived.Test.YtjocbnjpjihpnaaWWb
section
namespace Go.Proofs.YtjocbnjpjihpnaaW.Abs
open Go.RowKit Go.Proofs.YtjocbnjpjihpnaaW.PrintWords Go.Proofs.YtjocbnjpjihpnaaW.PrintLast Go.Proofs.YtjocbnjpjihpnaaW.PrintMore
set_option linter.unusedVariables false
set_option linter.unusedSectionVars false
set_option linter.unusedSimpArgs false

inductive Ex where
 | normal | ret | exit (id:Nat)
def loops:Code→Nat
 | .seq a b=>loops a+loops b
 | .cond _ x y=>loops x+loops y
 | .block _ b=>loops b
 | .loop c=>loops c+1
 | .scope c=>loops c
 | _=>0
abbrev KontT (R:Type):=Nat→Ex→List AV→List AB→Tree R
structure Cut (R:Type) where
 sl:List Slot
 g:Nat→TS sl→Option R
structure Cuts (R:Type) where
 N:CN
 lp:Nat→Option (Cut R)
 rb:Nat→Option (Cut R)
 ra:Nat→Option (Cut R)
def lookC {R:Type} :List (Nat × Cut R)→Nat→Option (Cut R)
 | [],_=>none
 | (u,c)::l,i=>if i=u then some c else lookC l i
section
variable {R:Type}
def Cut.go (N:CN) (c:Cut R) (k:Nat) (tm:List AV) (hp:List AB):Tree R:=atCut N c.sl c.g k tm hp
def KseqT (d:KontT R→Nat→List AV→List AB→Tree R) (K:KontT R):KontT R:=fun k e tm hp=>match e with
 | .normal=>d K k tm hp
 | e=>K k e tm hp
def inB (id:Nat):Ex→Ex
 | .exit j=>if j=id then .normal else .exit j
 | e=>e
def KblkT (id:Nat) (K:KontT R):KontT R:=fun k e tm hp=>K k (inB id e) tm hp
def KloopT (N:CN) (c:Cut R) (K:KontT R):KontT R:=fun k e tm hp=>match e with
 | .normal=>c.go N k tm hp
 | e=>K k e tm hp
noncomputable def regD (Θ:Tab) (S:FuncId→Option FE) (Bt:Nat→List Nat) (id:Nat) (ops:Array Oper) (draw:Bool) (K:KontT R) (k:Nat) (tm:List AV) (hp:List AB):Tree R :=
 if draw=true then denAny Θ S k ops (Bt id) ops.toList 0 [] tm hp (K k .normal) else denOps Θ S k ops ops.toList tm hp (K k .normal)
def behind (C:Cuts R) (id:Nat) (K:KontT R):KontT R:=match C.ra id with
 | some ct=>KloopT C.N ct K
 | none=>K
noncomputable def den (Θ:Tab) (S:FuncId→Option FE) (Bt:Nat→List Nat) (C:Cuts R) (c:Code):Nat→KontT R→Nat→List AV→List AB→Tree R :=
 Code.rec (motive:=fun _=>Nat→KontT R→Nat→List AV→List AB→Tree R)
  (fun _ K k tm hp=>K k .normal tm hp)
  (fun id ops draw _ K k tm hp=>match C.rb id with
    | some ct=>ct.go C.N k tm hp
    | none=>regD Θ S Bt id ops draw (behind C id K) k tm hp)
  (fun a _ da db n K k tm hp=>da n (KseqT (db (n+loops a)) K) k tm hp)
  (fun c x _ dx dy n K k tm hp=>match opnd tm c with
    | .val [.ro .bool b]=>Tree.tst ((b:Bool)=true) (dx n K k tm hp) (dy (n+loops x) K k tm hp)
    | _=> .non)
  (fun id _ db n K k tm hp=>db n (KblkT id K) k tm hp)
  (fun _ _ n _ k tm hp=>match C.lp n with
    | some ct=>ct.go C.N k tm hp
    | none=> .non)
  (fun _ _ _ _ _ _ _ _ _ _ _=> .non)
  (fun id _ K k tm hp=>K k (.exit id) tm hp)
  (fun _ db n K k tm hp=>db n K k tm hp)
  (fun _ _ K k tm hp=>K k .normal tm hp)
  (fun _ _ _ _ _ _=> .non)
  (fun _ K k tm hp=>K k .ret tm hp)
  (fun _ _ _ _ _ _=> .non) c
def storesB (ops:Array Oper):Bool:=ops.all fun o=>match o.op with
 | .store .. =>o.dst.isNone
 | _=>true
def codeB (Bt:Nat→List Nat):Code→Bool
 | .seq a b=>codeB Bt a&&codeB Bt b
 | .cond _ x y=>codeB Bt x&&codeB Bt y
 | .block _ b=>codeB Bt b
 | .scope b=>codeB Bt b
 | .loop c=>codeB Bt c
 | .region id ops draw=>storesB ops&&(!draw || regB ops (Bt id))
 | _=>true
def ObD (C:Cuts R) (ct:Cut R) (D:Nat→List AV→List AB→Tree R):Prop:= ∀ k x r,ct.g k x=some r→ ∃ k',k'≤k∧(D k' (cutT C.N ct.sl x) (cutH C.N ct.sl x)).run=some r
def obA (C:Cuts R) (id:Nat) (K:KontT R) (q:Prop):Prop:=match C.ra id with
 | some ct=>ObD C ct (fun k=>K k .normal)∧q
 | none=>q
theorem obA_last {C:Cuts R} {id:Nat} {K:KontT R} {q:Prop} (h:obA C id K q):q:=by
 unfold obA at h
 split at h
 · exact h.2
 · exact h
def ObL (C:Cuts R) (ct:Cut R) (D:Nat→List AV→List AB→Tree R):Prop:= ∀ k x r,ct.g k x=some r→ ∃ k',k'<k∧(D k' (cutT C.N ct.sl x) (cutH C.N ct.sl x)).run=some r
noncomputable def obs (Θ:Tab) (S:FuncId→Option FE) (Bt:Nat→List Nat) (C:Cuts R) (c:Code):Nat→KontT R→Prop→Prop :=
 Code.rec (motive:=fun _=>Nat→KontT R→Prop→Prop)
  (fun _ _ q=>q)
  (fun id ops draw _ K q=>match C.rb id with
    | some ct=>ObD C ct (regD Θ S Bt id ops draw (behind C id K))∧obA C id K q
    | none=>obA C id K q)
  (fun a b da db n K q=>da n (KseqT (den Θ S Bt C b (n+loops a)) K) (db (n+loops a) K q))
  (fun _ x _ dx dy n K q=>dx n K (dy (n+loops x) K q))
  (fun id _ db n K q=>db n (KblkT id K) q)
  (fun b db n K q=>match C.lp n with
    | some ct=>ObL C ct (den Θ S Bt C b (n+1) (KloopT C.N ct K))∧db (n+1) (KloopT C.N ct K) q
    | none=>db (n+1) K q)
  (fun _ _ _ _ _ _ _ _ q=>q)
  (fun _ _ _ q=>q)
  (fun _ db n K q=>db n K q)
  (fun _ _ _ q=>q)
  (fun _ _ _ q=>q)
  (fun _ _ q=>q)
  (fun _ _ _ q=>q) c
theorem obs_last {Θ:Tab} {S:FuncId→Option FE} {Bt:Nat→List Nat} {C:Cuts R} : ∀ (c:Code) (n:Nat) (K:KontT R) (q:Prop),obs Θ S Bt C c n K q→q
 | .skip,_,_,_,h=>h
 | .region id ops draw,n,K,q,h=>by
   change (match C.rb id with
    | some ct=>ObD C ct (regD Θ S Bt id ops draw (behind C id K))∧obA C id K q
    | none=>obA C id K q) at h
   split at h
   · exact obA_last h.2
   · exact obA_last h
 | .seq a b,n,K,q,h=>obs_last b _ _ _ (obs_last a _ _ _ h)
 | .cond _ x y,n,K,q,h=>obs_last y _ _ _ (obs_last x _ _ _ h)
 | .block id b,n,K,q,h=>obs_last b _ _ _ h
 | .loop b,n,K,q,h=>by
   change (match C.lp n with
    | some ct=>ObL C ct (den Θ S Bt C b (n+1) (KloopT C.N ct K))∧obs Θ S Bt C b (n+1) (KloopT C.N ct K) q
    | none=>obs Θ S Bt C b (n+1) K q) at h
   split at h
   · exact obs_last b _ _ _ h.2
   · exact obs_last b _ _ _ h
 | .scope b,n,K,q,h=>obs_last b _ _ _ h
 | .exit _,_,_,_,h=>h
 | .label _,_,_,_,h=>h
 | .goto _,_,_,_,h=>h
 | .ret,_,_,_,h=>h
 | .rangeFunc ..,_,_,_,h=>h
 | .refuse _,_,_,_,h=>h
end
def exOf:Ex→Exit
 | .normal=> .normal
 | .ret=> .ret
 | .exit id=> .exit id
section
variable {P:Program} {Θ:Tab} {S:FuncId→Option FE} {U0:Nat→Prop} {w0:St} {R:Type} {r:R} {Bt:Nat→List Nat} {C:Cuts R}
theorem SpecsOk.less {k k0:Nat} (h:SpecsOk P S k0) (hk:k≤k0):SpecsOk P S k:=fun g s hs=>⟨(h g s hs).1,fun q hq=>(h g s hs).2 q (Nat.le_trans hq hk)⟩
def Fits (U0:Nat→Prop) (w0:St) (k0:Nat) (r:R) (K:KontT R) (Q:Exit→Act→World→Prop):Prop:= ∀ k e tm hp,k≤k0→(K k e tm hp).run=some r→ ∀ ν a w,Inv U0 ν tm hp w0 a w→Q (exOf e) a w
theorem fits_seq {k0:Nat} {d:KontT R→Nat→List AV→List AB→Tree R} {K:KontT R} {Q:Exit→Act→World→Prop} {next:Act→World→Prop} (h:Fits U0 w0 k0 r K Q) (hn : ∀ k tm hp,k≤k0→(d K k tm hp).run=some r→ ∀ ν a w,Inv U0 ν tm hp w0 a w→next a w):Fits U0 w0 k0 r (KseqT d K) (Exit.then next Q):=by
 intro k e tm hp hk hK ν a w I
 cases e with
 | normal=>exact hn k tm hp hk hK ν a w I
 | ret=>exact h k .ret tm hp hk hK ν a w I
 | exit id=>exact h k (.exit id) tm hp hk hK ν a w I
theorem fits_blk {k0:Nat} {id:Nat} {K:KontT R} {Q:Exit→Act→World→Prop} (h:Fits U0 w0 k0 r K Q):Fits U0 w0 k0 r (KblkT id K) (Exit.inBlock id Q):=by
 intro k e tm hp hk hK ν a w I
 cases e with
 | normal=>exact h k .normal tm hp hk hK ν a w I
 | ret=>exact h k .ret tm hp hk hK ν a w I
 | exit j =>
   have hK:(K k (if j=id then Ex.normal else Ex.exit j) tm hp).run=some r:=hK
   show (if j=id then Q .normal a w else Q (.exit j) a w)
   by_cases hj:j=id
   · rw [if_pos hj] at hK ⊢;exact h k .normal tm hp hk hK ν a w I
   · rw [if_neg hj] at hK ⊢;exact h k (.exit j) tm hp hk hK ν a w I
theorem fits_behind (hU0 : ∀ q,U0 q→q<w0.heap.size) (hF : ∀ p∈w0.fx,p.1∈C.N.f) {k0:Nat} {id:Nat} {K:KontT R} {Q:Exit→Act→World→Prop} {q:Prop} (ho:obA C id K q) (h:Fits U0 w0 k0 r K Q):Fits U0 w0 k0 r (behind C id K) Q:=by
 unfold behind
 unfold obA at ho
 split at ho
 · rename_i ct he
   intro k e tm hp hk hK ν a w I
   cases e with
   | normal =>
     obtain ⟨x,ν',hg,I'⟩:=I.cut hU0 hF hK
     obtain ⟨k',hk',hd⟩:=ho.1 k x r hg
     exact h k' .normal _ _ (by omega) hd ν' a w I'
   | ret=>exact h k .ret tm hp hk hK ν a w I
   | exit id=>exact h k (.exit id) tm hp hk hK ν a w I
 · exact h
theorem fits_scope {k0:Nat} {K:KontT R} {Q:Exit→Act→World→Prop} (h:Fits U0 w0 k0 r K Q):Fits U0 w0 k0 r K (Exit.noGoto Q):=by
 intro k e tm hp hk hK ν a w I
 cases e with
 | normal=>exact h k .normal tm hp hk hK ν a w I
 | ret=>exact h k .ret tm hp hk hK ν a w I
 | exit id=>exact h k (.exit id) tm hp hk hK ν a w I
theorem store_dst {ops:Array Oper} (h:storesB ops=true) : ∀ o∈ops.toList,∀ t x y,o.op= .store t x y→o.dst=none:=by
 intro o ho t x y hop
 unfold storesB at h
 rw [Array.all_eq_true'] at h
 have:=h o (by simpa using ho)
 rw [hop] at this
 simpa using this
theorem Inv.drawn {ν:Nat→Value} {tm:List AV} {hp:List AB} {a:Act} {w:World} (I:Inv U0 ν tm hp w0 a w):Inv U0 ν tm hp w0 a {w with drawn:=w.drawn+1} :=
 I.go (a:=a) none .junk undef (Nat.le_refl _) (fun _ _=>rfl) (fun j hj k hk=>(I.lt hj hk).1) trivial (I.fr.step ⟨rfl,rfl,rfl,Nat.le_refl _,fun _ _=>rfl⟩)
theorem region_ok (hm:P.follows .mixedOrders=true) (hΘ:Θ.ok P=true) (hU0 : ∀ q,U0 q→q<w0.heap.size) (hF : ∀ p∈w0.fx,p.1∈C.N.f) {id:Nat} {ops:Array Oper} {draw:Bool} {k0:Nat} {K:KontT R} {Q:Exit→Act→World→Prop} (hS:SpecsOk P S k0) (hc:codeB Bt (.region id ops draw)=true) (hK:Fits U0 w0 k0 r K Q)
 {k:Nat} {tm:List AV} {hp:List AB} (hk:k≤k0) (h:(regD Θ S Bt id ops draw K k tm hp).run=some r) {ν:Nat→Value} {a:Act} {w:World} (I:Inv U0 ν tm hp w0 a w):(Code.region id ops draw).wp P Q a w:=by
 simp only [codeB,Bool.and_eq_true,Bool.or_eq_true,Bool.not_eq_true'] at hc
 unfold regD at h
 split at h
 · rename_i hd
   subst hd
   have hr:regB ops (Bt id)=true:=hc.2.resolve_left (by simp)
   unfold regB at hr
   rw [Bool.and_eq_true] at hr
   obtain ⟨us,rec,hfin⟩:=denAny_rec ops.toList 0 (fun _=>⟨.junk,H0,[]⟩) [] tm hp rfl ⟨rfl,fun j hj=>by omega,fun a b ha=>by omega,tmD_zero.symm,hpD_zero.symm⟩ (by simp) h
   refine wp_region_any hm ?_
   have hfalse : ∀ {j:Nat},j<ops.size→dn (Array.replicate ops.size false) j=false:=fun {j} hj=>by unfold dn;simp [hj]
   have e1:tmD ops us tm (dn (Array.replicate ops.size false)) ops.size=tm:=by
    have:tmD ops us tm (dn (Array.replicate ops.size false)) ops.size=tmD ops us tm (dn (Array.replicate ops.size false)) 0:=by
     unfold tmD
     exact List.map_congr_left fun t _=>lw_skip _ _ (by omega) fun m _ hm _=>hfalse hm
    rw [this,tmD_zero]
   have e2:hpD ops us hp (dn (Array.replicate ops.size false)) ops.size=hp:=by
    have:hpD ops us hp (dn (Array.replicate ops.size false)) ops.size=hpD ops us hp (dn (Array.replicate ops.size false)) 0:=by
     unfold hpD
     exact List.map_congr_left fun t _=>lw_skip _ _ (by omega) fun m _ hm _=>hfalse hm
    rw [this,hpD_zero]
   refine any_ok hΘ (hS.less hk) hr.1 hr.2 (store_dst hc.1) rec hU0 (fun ν' a' w' I=>hK k .normal _ _ hk hfin ν' a' w' I) ops.size _ ν a _ (by simp) (fun j hj hd=>by rw [hfalse hj] at hd;cases hd) ?_ (by rw [e1,e2];exact I.drawn)
   unfold left
   exact Nat.le_trans List.countP_le_length (by simp)
 · rename_i hd
   have hd:draw=false:=by simpa using hd
   subst hd
   refine wp_region_list ?_
   exact ops_ok hΘ (hS.less hk) (fun tm' hp' h' ν' a' w' I'=>hK k .normal tm' hp' hk h' ν' a' w' I') hU0 ops.toList tm hp ν a w (store_dst hc.1) h I
theorem code_ok (hm:P.follows .mixedOrders=true) (hΘ:Θ.ok P=true) (hU0 : ∀ q,U0 q→q<w0.heap.size) (hF : ∀ p∈w0.fx,p.1∈C.N.f) : ∀ (c:Code) (k0:Nat) (n:Nat) (K:KontT R) (Q:Exit→Act→World→Prop) (q:Prop),SpecsOk P S k0→codeB Bt c=true→obs Θ S Bt C c n K q→Fits U0 w0 k0 r K Q →
 ∀ (k:Nat) (tm:List AV) (hp:List AB),k≤k0→(den Θ S Bt C c n K k tm hp).run=some r→ ∀ (ν:Nat→Value) (a:Act) (w:World),Inv U0 ν tm hp w0 a w→c.wp P Q a w
 | .skip,k0,n,K,Q,_,_,_,_,hK,k,tm,hp,hk,h,ν,a,w,I=>wp_skip (hK k .normal tm hp hk h ν a w I)
 | .exit id,k0,n,K,Q,_,_,_,_,hK,k,tm,hp,hk,h,ν,a,w,I=>wp_exit (hK k (.exit id) tm hp hk h ν a w I)
 | .ret,k0,n,K,Q,_,_,_,_,hK,k,tm,hp,hk,h,ν,a,w,I=>wp_ret (hK k .ret tm hp hk h ν a w I)
 | .region id ops draw,k0,n,K,Q,q,hS,hc,hl,hK,k,tm,hp,hk,h,ν,a,w,I=>by
   replace h:(match C.rb id with
    | some ct=>ct.go C.N k tm hp
    | none=>regD Θ S Bt id ops draw (behind C id K) k tm hp).run=some r:=h
   replace hl:(match C.rb id with
    | some ct=>ObD C ct (regD Θ S Bt id ops draw (behind C id K))∧obA C id K q
    | none=>obA C id K q):=hl
   split at h
   · rename_i ct he
     rw [he] at hl
     obtain ⟨x,ν',hg,I'⟩:=I.cut hU0 hF h
     obtain ⟨k',hk',hd⟩:=hl.1 k x r hg
     exact region_ok hm hΘ hU0 hF hS hc (fits_behind hU0 hF hl.2 hK) (by omega) hd I'
   · rename_i he
     rw [he] at hl
     exact region_ok hm hΘ hU0 hF hS hc (fits_behind hU0 hF hl hK) hk h I
 | .seq x y,k0,n,K,Q,_,hS,hc,hl,hK,k,tm,hp,hk,h,ν,a,w,I=>by
   simp only [codeB,Bool.and_eq_true] at hc
   refine wp_seq ?_
   exact code_ok hm hΘ hU0 hF x k0 n _ _ _ hS hc.1 hl (fits_seq hK fun k' tm' hp' hk' h' ν' a' w' I'=>code_ok hm hΘ hU0 hF y k0 (n+loops x) K Q _ hS hc.2 (obs_last x _ _ _ hl) hK k' tm' hp' hk' h' ν' a' w' I') k tm hp hk h ν a w I
 | .cond c x y,k0,n,K,Q,_,hS,hc,hl,hK,k,tm,hp,hk,h,ν,a,w,I=>by
   simp only [codeB,Bool.and_eq_true] at hc
   replace h:(match opnd tm c with
    | .val [.ro .bool b]=>Tree.tst ((b:Bool)=true) (den Θ S Bt C x n K k tm hp) (den Θ S Bt C y (n+loops x) K k tm hp)
    | _=> .non).run=some r:=h
   split at h
   · rename_i b hb
     have hv:=ro_bool (hb▸I.opnd c)
     refine wp_cond_split hv (fun ht=> ?_) (fun hf=> ?_)
     · rcases Tree.tst_run h with ⟨_,h⟩ | ⟨hn,_⟩
       · exact code_ok hm hΘ hU0 hF x k0 n K Q _ hS hc.1 hl hK k tm hp hk h ν a w I
       · exact absurd ht hn
     · rcases Tree.tst_run h with ⟨hn,_⟩ | ⟨_,h⟩
       · rw [hf] at hn;cases hn
       · exact code_ok hm hΘ hU0 hF y k0 (n+loops x) K Q _ hS hc.2 (obs_last x _ _ _ hl) hK k tm hp hk h ν a w I
   · cases h
 | .block id b,k0,n,K,Q,q,hS,hc,hl,hK,k,tm,hp,hk,h,ν,a,w,I=>wp_block (code_ok hm hΘ hU0 hF b k0 n _ _ _ hS hc hl (fits_blk hK) k tm hp hk h ν a w I)
 | .loop c,k0,n,K,Q,q,hS,hc,hl,hK,k,tm,hp,hk,h,ν,a,w,I=>by
   replace h:(match C.lp n with
    | some ct=>ct.go C.N k tm hp
    | none=> .non).run=some r:=h
   replace hl:(match C.lp n with
    | some ct=>ObL C ct (den Θ S Bt C c (n+1) (KloopT C.N ct K))∧obs Θ S Bt C c (n+1) (KloopT C.N ct K) q
    | none=>obs Θ S Bt C c (n+1) K q):=hl
   split at h
   · rename_i ct he
     rw [he] at hl
     refine wp_loop_ghost (fun m a w=>m≤k0∧ ∃ tm hp ν,(ct.go C.N m tm hp).run=some r∧Inv U0 ν tm hp w0 a w) k ⟨hk,tm,hp,ν,h,I⟩ ?_
     rintro m a w ⟨hm0,tm,hp,ν,hJ,I⟩
     obtain ⟨x,ν',hg,I'⟩:=I.cut hU0 hF hJ
     obtain ⟨k',hk',hd⟩:=hl.1 m x r hg
     refine code_ok hm hΘ hU0 hF c k' (n+1) _ _ _ (hS.less (by omega)) hc hl.2 ?_ k' _ _ (Nat.le_refl _) hd ν' a w I'
     intro k2 e tm2 hp2 hk2 hK2 ν2 a2 w2 I2
     cases e with
     | normal=>exact ⟨k2,by omega,by omega,tm2,hp2,ν2,hK2,I2⟩
     | ret=>exact hK k2 .ret tm2 hp2 (by omega) hK2 ν2 a2 w2 I2
     | exit id=>exact hK k2 (.exit id) tm2 hp2 (by omega) hK2 ν2 a2 w2 I2
   · cases h
 | .label _,k0,n,K,Q,_,_,_,_,hK,k,tm,hp,hk,h,ν,a,w,I=>wp_label (hK k .normal tm hp hk h ν a w I)
 | .goto _,_,_,_,_,_,_,_,_,_,_,_,_,_,h,_,_,_,_=>absurd (show (Tree.non:Tree R).run=some r from h) (fun z=>Tree.non_run z)
 | .refuse _,_,_,_,_,_,_,_,_,_,_,_,_,_,h,_,_,_,_=>absurd (show (Tree.non:Tree R).run=some r from h) (fun z=>Tree.non_run z)
 | .scope b,k0,n,K,Q,q,hS,hc,hl,hK,k,tm,hp,hk,h,ν,a,w,I=>wp_scope_straight (code_ok hm hΘ hU0 hF b k0 n _ _ _ hS hc hl (fits_scope hK) k tm hp hk h ν a w I)
 | .rangeFunc ..,_,_,_,_,_,_,_,_,_,_,_,_,_,h,_,_,_,_=>absurd (show (Tree.non:Tree R).run=some r from h) (fun z=>Tree.non_run z)
end
end Go.Proofs.YtjocbnjpjihpnaaW.Abs

end
section
namespace Go.Proofs.YtjocbnjpjihpnaaW.Abs
open Go.RowKit Go.Proofs.YtjocbnjpjihpnaaW.PrintWords Go.Proofs.YtjocbnjpjihpnaaW.PrintLast Go.Proofs.YtjocbnjpjihpnaaW.PrintMore
set_option linter.unusedVariables false
set_option linter.unusedSectionVars false
set_option linter.unusedSimpArgs false

def argV:(ps:List Ty)→TT ps→List AV
 | [],_=> []
 | t::ts,(x,y)=> .val (expl t x)::argV ts y
def resT (Θ:Tab) (tm:List AV) (hp:List AB):(rs:List Ty)→List ResultVar→Option (TT rs)
 | [],[]=>some ()
 | t::ts, .tmp q::os=>match opnd tm (.tmp q) with
   | .val cs=>match toT hp t cs with
     | some (x,[])=>match resT Θ tm hp ts os with
       | some xs=>some (x,xs)
       | none=>none
     | _=>none
   | _=>none
 | t::ts, .cell q u::os=>match opnd tm (.tmp q),ti Θ u with
   | .val [.ptr j 0],some i=>match hp[j]? with
     | some (.cells _ _ cs)=>if i.size=cs.length then (match toT hp t cs with
       | some (x,[])=>match resT Θ tm hp ts os with
         | some xs=>some (x,xs)
         | none=>none
       | _=>none) else none
     | _=>none
   | _,_=>none
 | _,_=>none
def K0 (Θ:Tab) (rs:List Ty) (vs:List ResultVar):KontT (TT rs):=fun k e tm hp=>match e with
 | .exit _=> .non
 | _=>ofO (resT Θ tm hp rs vs)
def tm0 (n:Nat) (ps:List Ty) (x:TT ps):List AV:=argV ps x++List.replicate (n-ps.length) .junk
section
variable {P:Program} {Θ:Tab} {S:FuncId→Option FE} {U0:Nat→Prop} {ν:Nat→Value} {tm:List AV} {hp:List AB} {w0:St} {w:World} {a:Act}
theorem argV_len : ∀ {ps:List Ty} {x:TT ps},(argV ps x).length=ps.length
 | [],_=>rfl
 | t::ts,x=>congrArg (· +1) argV_len
theorem argV_rel {ν:Nat→Value} {L:Nat→Prop} : ∀ {ps:List Ty} {x:TT ps} {vs:List Value},ArgR (Un U0 ν L) w ps x vs→vs.length=ps.length∧ ∀ (i:Nat) (y:AV),(argV ps x)[i]? =some y→ ∃ v:Value,vs[i]? =some v∧RelV U0 ν L w y v
 | [],x,vs,h=>by rw [show vs= [] from h];exact ⟨rfl,fun i y hy=>by simp [argV] at hy⟩
 | t::ts,x,v::vs,⟨⟨cs,h1,h2⟩,h3⟩=>by
   obtain ⟨q1,q2⟩:=argV_rel h3
   refine ⟨congrArg (· +1) q1,fun i y hy=> ?_⟩
   cases i with
   | zero =>
     simp only [argV,List.getElem?_cons_zero] at hy
     injection hy with hy
     subst hy
     exact ⟨v,rfl,cs,h1,expl_rel t x.1 h2⟩
   | succ i =>
     simp only [argV,List.getElem?_cons_succ] at hy
     exact q2 i y hy
 | _::_,_,[],h=>h.elim
def resItem (tmps:Array Value):ResultVar→Sem Value
 | .tmp t=>pure (tmps.getD t undef)
 | .cell a t=>do loadVar t (← asAddr (tmps.getD a undef))
theorem res_told (I:Inv U0 ν tm hp w0 a w) {U:Nat→Prop} (hU : ∀ k,k<w.heap.size→U k→Un U0 ν (lv hp) k) {t:Ty} {cs:List AC} {x:T t} {vs:List Value} (hm:MayTell U ν hp cs) (h:toT hp t cs=some (x,[])) (hr:All2 (RelC U0 ν (lv hp) w) cs vs):Rd U w t x vs:=by
 obtain ⟨v1,v2,e1,e2,e3,_⟩:=toT_rel I hU hm h hr
 have:v2= []:=by
  cases v2 with
  | nil=>rfl
  | cons _ _=>exact e3.elim
 subst this
 rw [List.append_nil] at e1
 exact e1▸e2
def resC (tm:List AV) (hp:List AB):ResultVar→List AC
 | .tmp q=>cellsOf (opnd tm (.tmp q))
 | .cell q _=>match opnd tm (.tmp q) with
   | .val [.ptr j 0]=>match hp[j]? with
     | some (.cells _ _ cs)=>cs
     | _=> []
   | _=> []
theorem resT_rel (hΘ:Θ.ok P=true) (I:Inv U0 ν tm hp w0 a w) {U:Nat→Prop} (hU : ∀ k,k<w.heap.size→U k→Un U0 ν (lv hp) k) : ∀ {rs:List Ty} {os:List ResultVar} {x:TT rs},(∀ o∈os,MayTell U ν hp (resC tm hp o))→resT Θ tm hp rs os=some x→ ∃ us,(os.mapM (resItem a.tmps)).run P w= .ok us w∧ResL U w rs x us
 | [],[],x,hT,h=>⟨[],by simp,rfl⟩
 | t::ts, .tmp q::os,x,hT,h=>by
   simp only [resT] at h
   split at h
   · rename_i cs hc
     split at h
     · rename_i y hy
       split at h
       · rename_i ys hys
         injection h with h
         subst h
         obtain ⟨vs,h1,h2⟩:=hc▸I.opnd (.tmp q)
         obtain ⟨us,e1,e2⟩:=resT_rel hΘ I hU (fun o ho=>hT o (List.mem_cons_of_mem _ ho)) hys
         have hT0:=hT _ List.mem_cons_self
         simp only [resC,hc,cellsOf] at hT0
         refine ⟨mkV vs::us, ?_,⟨vs,rfl,res_told I hU hT0 hy h2⟩,e2⟩
         have h1:a.tmps.getD q undef=mkV vs:=h1
         simp [List.mapM_cons,resItem,h1,e1]
       · cases h
     · cases h
   · cases h
 | t::ts, .cell q u::os,x,hT,h=>by
   simp only [resT] at h
   split at h
   · rename_i j i hj hi
     split at h
     · rename_i lq e cs hb
       split at h
       · rename_i hsz
         split at h
         · rename_i y hy
           split at h
           · rename_i ys hys
             injection h with h
             subst h
             obtain ⟨hjl,g,hν,hv⟩:=val_one (hj▸I.opnd (.tmp q))
             obtain ⟨g',vs,h1,h2,h3,h4,h5⟩:=I.cells hb
             rw [hν] at h1
             injection h1 with h1
             injection h1 with h1
             injection h1 with h1
             subst h1
             obtain ⟨f,d,hf,hd,hs,_,_,ha,_⟩:=kind_of hΘ hi
             have hr:=run_loadAt (P:=P) (w:=w) (ad:=⟨g,0,none⟩) (vs:=vs) hf hd hs ha (by rw [← h4.len,hsz]) (fun z hz=>by rw [add_at,blk_cell h3];simp)
             obtain ⟨us,e1,e2⟩:=resT_rel hΘ I hU (fun o ho=>hT o (List.mem_cons_of_mem _ ho)) hys
             have hT0:=hT _ List.mem_cons_self
             simp only [resC,hj,hb] at hT0
             refine ⟨mkV vs::us, ?_,⟨vs,rfl,res_told I hU hT0 hy h4⟩,e2⟩
             have hv:a.tmps.getD q undef= .pointer (some ⟨g,0,none⟩):=hv
             have hr':(loadVar u ⟨g,0,none⟩).run P w= .ok (mkV vs) w:=by
              have:=hr
              unfold Instr.loadAt Instr.sureAddr at this
              simpa using this
             simp [List.mapM_cons,resItem,hv,e1,asAddr,hr']
           · cases h
         · cases h
       · cases h
     · cases h
   · cases h
 | [],_::_,x,_,h=>by simp [resT] at h
 | _::_,[],x,_,h=>by simp [resT] at h
theorem run_results {fn:Func} {us:List Value} (h:(fn.results.toList.mapM (resItem a.tmps)).run P w= .ok us w):(results fn a.tmps).run P w= .ok (mkR us) w:=by
 have e:results fn a.tmps=(do
  let vs ← fn.results.mapM (resItem a.tmps)
  pure (if h:vs.size=1 then vs[0] else .tuple vs)):=by
  unfold results
  congr 1
 rw [e,Array.mapM_eq_mapM_toList]
 simp only [bind_map_left,Sem.run_bind,h,Result.andThen_ok,Sem.run_pure]
 congr 1
 match us with
 | []=>rfl
 | [u]=>rfl
 | u::v::l=>rfl
theorem fn_ok {g:FuncId} {fn:Func} {c:Code} {s:FSpec} {k k1:Nat} {Bt:Nat→List Nat} {C:Cuts (TT s.rs)} (hm:P.follows .mixedOrders=true) (hΘ:Θ.ok P=true) (hS:SpecsOk P S k) (hf:P.funcs[g]? =some fn) (hb:fn.body=some c) (hc:codeB Bt c=true) (hn:s.ps.length≤fn.ntmps)
 (hl:obs Θ S Bt C c 0 (K0 Θ s.rs fn.results.toList) True) (hd : ∀ x r,s.f k1 x=some r→(den Θ S Bt C c 0 (K0 Θ s.rs fn.results.toList) k (tm0 fn.ntmps s.ps x) (List.replicate fn.ntmps .gone)).run=some r):FnOk P g s k1:=by
 intro x r hr U w vs hU harg
 have hnl : ∀ j,¬ lv (List.replicate fn.ntmps AB.gone) j:=fun j ⟨b,h1,h2⟩=>by
  rw [List.getElem?_replicate] at h1
  split at h1
  · injection h1 with h1;subst h1;simp [isGone] at h2
  · cases h1
 have hun : ∀ q,Un U (fun _=>undef) (lv (List.replicate fn.ntmps AB.gone)) q→U q:=fun q hq=>hq.elim id fun ⟨j,hj,_⟩=>absurd hj (hnl j)
 have harg':ArgR (Un U (fun _=>undef) (lv (List.replicate fn.ntmps AB.gone))) w s.ps x vs:=by
  have key : ∀ {ps:List Ty} {x:TT ps} {vs:List Value},ArgR U w ps x vs→ArgR (Un U (fun _=>undef) (lv (List.replicate fn.ntmps AB.gone))) w ps x vs:=by
   intro ps
   induction ps with
   | nil=>intro x vs h;exact h
   | cons t ts ih =>
     intro x vs h
     cases vs with
     | nil=>exact h.elim
     | cons v vs =>
       obtain ⟨⟨cs,h1,h2⟩,h3⟩:=h
       exact ⟨⟨cs,h1,h2.move ⟨Nat.le_refl _,fun _ _ _=>rfl,fun q _ z=>hun q z⟩⟩,ih h3⟩
  exact key harg
 obtain ⟨hlen,hrel⟩:=argV_rel harg'
 refine calls_of_wp hf hb ?_
 refine code_ok hm hΘ (w0:= {toWorld:=w,io:= [],fx:= []}) hU (fun p hp=>by simp at hp) c k 0 _ _ _ hS hc hl ?_ k _ _ (Nat.le_refl _) (hd x r hr) (fun _=>undef) _ w ?_
 · intro k' e tm hp hk' hK ν a w' I
   have fin:(ofO (resT Θ tm hp s.rs fn.results.toList)).run=some r→a.defers= []∧ ∃ v,(results fn a.tmps).run P w'= .ok v w'∧ ∃ v',Ending.returned v= .returned v'∧ResR U w' s.rs r v'∧Below w.heap.size w w':=by
    intro h
    rw [ofO_run] at h
    obtain ⟨us,e1,e2⟩:=resT_rel hΘ I (U:=U) (fun k _ z=> .inl z) (fun o _ j e t xs hj hb k hk hu=>by
     have h1:w.heap.size≤k:=I.lt_mine hb hk
     have:=hU k hu
     omega) h
    exact ⟨I.defers,_,run_results e1,_,rfl,⟨us,rfl,e2⟩,⟨I.fr.os,I.fr.tape,I.fr.output,I.fr.size,fun k hk=>I.fr.block k hk (by simp)⟩⟩
   cases e with
   | normal=>exact fin hK
   | ret=>exact fin hK
   | exit id=>exact (Tree.non_run hK).elim
 · refine ⟨by simp [tm0,argV_len,hlen],fun i y hy=> ?_,fun j b h1 h2=>absurd ⟨b,h1,h2⟩ (hnl j),fun i j _ hi=>absurd hi (hnl i),⟨rfl,rfl,rfl,Nat.le_refl _,fun _ _ _=>rfl⟩,fun p hp=>by simp at hp,rfl⟩
   unfold tm0 at hy
   rw [List.getElem?_append] at hy
   split at hy
   · rename_i hi
     obtain ⟨v,hv,hR⟩:=hrel i y hy
     have:(vs.toArray++Array.replicate (fn.ntmps-vs.toArray.size) undef).getD i undef=v:=by
      have hlt:=(List.getElem?_eq_some_iff.1 hv).1
      rw [Array.getD_eq_getD_getElem?,Array.getElem?_append,if_pos (by simpa using hlt)]
      simp [hv]
     show RelV _ _ _ _ _ ((vs.toArray++Array.replicate (fn.ntmps-vs.toArray.size) undef).getD i undef)
     rw [this]
     exact hR
   · rw [List.getElem?_replicate] at hy
     split at hy
     · injection hy with hy;subst hy;trivial
     · cases hy
end
def LeM {A R:Type} (m:A→R) (x:Option A) (y:Option R):Prop:= ∀ a,x=some a→y=some (m a)
def FOk (P:Program) (g:FuncId) (s:FSpec):Prop:=bodied P g=true∧ ∀ k,FnOk P g s k
def FIk (P:Program) (g:FuncId) (s:ISpec):Prop:=bodied P g=true∧ ∀ k,IOk P g s k
def FNk (P:Program) (g:FuncId) (s:NSpec):Prop:=bodied P g=true∧ ∀ k,NOk P g s k
def look:List (FuncId × FE)→FuncId→Option FE
 | [],_=>none
 | (u,s)::l,g=>if g=u then some s else look l g
def Oks (P:Program):List (FuncId × FE)→Prop
 | []=>True
 | (g, .pu s)::l=>FOk P g s∧Oks P l
 | (g, .io s _)::l=>FIk P g s∧Oks P l
 | (g, .nw s)::l=>FNk P g s∧Oks P l
def blook:List (Nat × List Nat)→Nat→List Nat
 | [],_=> []
 | (u,b)::l,i=>if i=u then b else blook l i
def LeT {A R:Type} (m:A→R) (x:Option A) (y:Tree R):Prop:=LeM m x y.run
section
variable {A B C R:Type} {m:A→R}
theorem LeT.call {x:Option B} {q:B→C} {y:Option C} {F:B→Option A} {G:C→Tree R} (hy:x.map q=y) (h : ∀ t,x=some t→LeT m (F t) (G (q t))):LeT m (x.bind F) (.cll y G):=by
 subst hy
 intro a ha
 cases hx:x with
 | none=>rw [hx] at ha;cases ha
 | some t=>rw [hx] at ha;exact h t hx a ha
theorem LeT.again {x:Option B} {t:B} {q:B→C} {y:Option C} {X:Option A} {G:C→Tree R} (hx:x=some t) (hy:x.map q=y) (h:LeT m X (G (q t))):LeT m X (.cll y G):=by
 intro a ha
 subst hy hx
 exact h a ha
theorem LeT.ite {c:Prop} [Decidable c] {X Y:Option A} {Z:Tree R} (h1:c→LeT m X Z) (h2 : ¬ c→LeT m Y Z):LeT m (if c then X else Y) Z:=by
 by_cases h:c
 · rw [if_pos h];exact h1 h
 · rw [if_neg h];exact h2 h
theorem LeT.tstp {c:Prop} [d:Decidable c] {X:Option A} {Y Z:Tree R} (h:c) (k:LeT m X Y):LeT m X (.tst c Y Z):=fun a ha=>by
 show (if c then Y.run else Z.run)=_
 rw [if_pos h];exact k a ha
theorem LeT.tstn {c:Prop} [d:Decidable c] {X:Option A} {Y Z:Tree R} (h : ¬ c) (k:LeT m X Z):LeT m X (.tst c Y Z):=fun a ha=>by
 show (if c then Y.run else Z.run)=_
 rw [if_neg h];exact k a ha
theorem LeT.now {a:A} {r:R} (h:r=m a):LeT m (some a) (.done r):=fun b hb=>by injection hb with hb;subst hb;exact congrArg some h
theorem LeT.none {y:Tree R} :LeT m Option.none y:=fun b hb=>by cases hb
theorem LeT.tail {x:Option A} {y:Option R} (h:x.map m=y):LeT m x (.cll y .done):=fun a ha=>by
 subst h ha
 rfl
end
section
variable {R A:Type} {m:A→R} {N:CN} {sl:List Slot} {F:Nat→TS sl→Option A} {D:Nat→List AV→List AB→Tree R}
theorem ob_loop (h0 : ∀ x,F 0 x=none) (h : ∀ k x,LeT m (F (k+1) x) (fL (cutT N sl x) fun tm=>fH (cutH N sl x) fun hp=>D k tm hp)) : ∀ k x r,(F k x).map m=some r→ ∃ k',k'<k∧(D k' (cutT N sl x) (cutH N sl x)).run=some r
 | 0,x,r,hr=>by rw [h0 x] at hr;cases hr
 | k+1,x,r,hr=>by
   obtain ⟨a,ha,rfl⟩:=Option.map_eq_some_iff.1 hr
   have:=h k x a ha
   rw [fL_eq,fH_eq] at this
   exact ⟨k,Nat.lt_succ_self k,this⟩
theorem ob_join1 (h0 : ∀ x,F 0 x=none) (h : ∀ k x,LeT m (F (k+1) x) (fL (cutT N sl x) fun tm=>fH (cutH N sl x) fun hp=>D k tm hp)) : ∀ k x r,(F k x).map m=some r→ ∃ k',k'≤k∧(D k' (cutT N sl x) (cutH N sl x)).run=some r:=fun k x r hr=>by
 obtain ⟨k',h1,h2⟩:=ob_loop h0 h k x r hr
 exact ⟨k',Nat.le_of_lt h1,h2⟩
end
def noCuts {R:Type} :Cuts R:=⟨⟨0,0,[]⟩,fun _=>none,fun _=>none,fun _=>none⟩
def OksK (P:Program) (k0:Nat):List (FuncId × FE)→Prop
 | []=>True
 | p::l=>(bodied P p.1=true∧ ∀ k,k≤k0→FeOk P p.1 p.2 k)∧OksK P k0 l
theorem Oks.upTo {P:Program} {k0:Nat} : ∀ {l:List (FuncId × FE)},Oks P l→OksK P k0 l
 | [],_=>trivial
 | (_, .pu _)::l,h=>⟨⟨h.1.1,fun k _=>h.1.2 k⟩,Oks.upTo (l:=l) h.2⟩
 | (_, .io _ _)::l,h=>⟨⟨h.1.1,fun k _=>h.1.2 k⟩,Oks.upTo (l:=l) h.2⟩
 | (_, .nw _)::l,h=>⟨⟨h.1.1,fun k _=>h.1.2 k⟩,Oks.upTo (l:=l) h.2⟩
theorem look_okK {P:Program} {k0:Nat} : ∀ {l:List (FuncId × FE)},OksK P k0 l→SpecsOk P (look l) k0
 | [],_,g,s,hs=>by simp [look] at hs
 | (u,t)::l,h,g,s,hs=>by
   unfold look at hs
   split at hs
   · rename_i e;injection hs with hs;subst hs;subst e;exact h.1
   · exact look_okK (l:=l) h.2 g s hs
theorem fn_ofK {P:Program} {Θ:Tab} {l:List (FuncId × FE)} {g:FuncId} {fn:Func} {c:Code} {s:FSpec} {Bt:Nat→List Nat} {C:Cuts (TT s.rs)} {A:Type} {m:A→TT s.rs} {k k1:Nat} {F:TT s.ps→Option A} (hm:P.follows .mixedOrders=true) (hΘ:Θ.ok P=true) (ho:OksK P k l) (hf:P.funcs[g]? =some fn) (hb:fn.body=some c) (hc:codeB Bt c=true) (hn:s.ps.length≤fn.ntmps)
 (hF : ∀ x,s.f k1 x=(F x).map m) (hl:obs Θ (look l) Bt C c 0 (K0 Θ s.rs fn.results.toList) True) (hd : ∀ x,LeT m (F x) (fL (tm0 fn.ntmps s.ps x) fun tm=>fH (List.replicate fn.ntmps .gone) fun hp=>den Θ (look l) Bt C c 0 (K0 Θ s.rs fn.results.toList) k tm hp)):FnOk P g s k1 :=
 fn_ok hm hΘ (look_okK ho) hf hb hc hn hl fun x r hr=>by
  rw [hF] at hr
  obtain ⟨a,ha,rfl⟩:=Option.map_eq_some_iff.1 hr
  have:=hd x a ha
  rw [fL_eq,fH_eq] at this
  exact this
theorem fn_of {P:Program} {Θ:Tab} {l:List (FuncId × FE)} {g:FuncId} {fn:Func} {c:Code} {s:FSpec} {Bt:Nat→List Nat} {C:Cuts (TT s.rs)} {A:Type} {m:A→TT s.rs} {F:Nat→TT s.ps→Option A} (hm:P.follows .mixedOrders=true) (hΘ:Θ.ok P=true) (ho:Oks P l) (hf:P.funcs[g]? =some fn) (hb:fn.body=some c) (hc:codeB Bt c=true) (hn:s.ps.length≤fn.ntmps) (hg:bodied P g=true)
 (hF : ∀ k x,s.f k x=(F k x).map m) (hl:obs Θ (look l) Bt C c 0 (K0 Θ s.rs fn.results.toList) True) (hd : ∀ k x,LeT m (F k x) (fL (tm0 fn.ntmps s.ps x) fun tm=>fH (List.replicate fn.ntmps .gone) fun hp=>den Θ (look l) Bt C c 0 (K0 Θ s.rs fn.results.toList) k tm hp)):FOk P g s :=
 ⟨hg,fun k=>fn_ofK (k1:=k) hm hΘ ho.upTo hf hb hc hn (hF k) hl (hd k)⟩
attribute [irreducible] LeT
end Go.Proofs.YtjocbnjpjihpnaaW.Abs

end
section
namespace Go.Proofs.YtjocbnjpjihpnaaW.Abs
open Go.RowKit Go.Proofs.YtjocbnjpjihpnaaW.PrintWords Go.Proofs.YtjocbnjpjihpnaaW.PrintLast Go.Proofs.YtjocbnjpjihpnaaW.PrintMore
set_option linter.unusedVariables false
set_option linter.unusedSectionVars false
set_option linter.unusedSimpArgs false

def lq (keep:Bool):Lq:=match keep with
 | true=> .kept
 | false=> .lent
section
variable {P:Program} {Θ:Tab} {S:FuncId→Option FE} {U0:Nat→Prop} {ν:Nat→Value} {tm:List AV} {hp:List AB} {w0:St} {w w':World} {a:Act}
end
end Go.Proofs.YtjocbnjpjihpnaaW.Abs

end
section
namespace Go.Proofs.YtjocbnjpjihpnaaW.Abs
open Go.RowKit Go.Proofs.YtjocbnjpjihpnaaW.PrintWords Go.Proofs.YtjocbnjpjihpnaaW.PrintLast Go.Proofs.YtjocbnjpjihpnaaW.PrintMore
set_option linter.unusedVariables false

theorem tdiv_nn {x c:Int} (h:0≤x):Int.tdiv x c=x/c:=Int.tdiv_eq_ediv_of_nonneg h
theorem tmod_nn {x c:Int} (h:0≤x):Int.tmod x c=x%c:=Int.tmod_eq_emod_of_nonneg h
theorem u64_id {y:Int} (h:0≤y) (h1:y<18446744073709551616):IntKind.u64.wrap y=y:=by rw [IntKind.wrap_u64];omega
theorem i64_id {y:Int} (h : -9223372036854775808≤y) (h1:y<9223372036854775808):wrap64 y=y:=by unfold wrap64;omega
theorem shl_one {x:Int} :shl .u64 x 1=IntKind.u64.wrap (x*2):=rfl
theorem shl_mn {x a:Int} :shl .u64 x (mn a 10)=IntKind.u64.wrap (x*2^(mn a 10).toNat):=by
 have:(mn a 10).toNat≤10:=by unfold mn;split<;>omega
 unfold shl
 rw [Nat.min_eq_left (by show (mn a 10).toNat≤64;omega)]
theorem wr_z:wr .i64 (-0)= -0:=i64_id (by omega) (by omega)
section
variable {A B C R:Type} {m:A→R}
theorem by_ {c:Prop} (h:c:=by first
 | assumption
 | exact rfl
 | (simp [wr, *];done)
 | (simp_all [wr];done)
 | (simp_all [wr,rd,dflt];done)
 | (dsimp only;simp only [List.length_append,List.length_cons,List.length_nil,List.length_set,List.length_replicate,List.length_take,List.length_drop] at *;omega)
 | (simp (disch:=first | omega | (simp only [mx,mn];(repeat' split)<;>omega) | fail) only [wr,shr,shl,tdiv_nn,tmod_nn,u64_id,i64_id,IntKind.wrap_u8,rd,dflt,IntKind.bits,decide_eq_true_eq,decide_eq_false_iff_not,beq_iff_eq,bne_iff_ne] at *;first | done | omega | (simp only [List.length_append,List.length_cons,List.length_nil,List.length_set,List.length_replicate,List.length_take,List.length_drop] at *;omega))
 | (simp (disch:=first | omega | (simp only [mx,mn];(repeat' split)<;>omega) | fail) [wr,shr,shl,tdiv_nn,tmod_nn,u64_id,i64_id,IntKind.wrap_u8,rd,dflt,IntKind.bits, *];done)
 | (simp_all (disch:=first | omega | (simp only [mx,mn];(repeat' split)<;>omega) | fail) [wr,shr,shl,tdiv_nn,tmod_nn,u64_id,i64_id,IntKind.wrap_u8,rd,dflt,IntKind.bits];done)
 | (simp only [wr,wrap64,mn,mx] at *;(repeat' split)<;>omega)
 | (simp only [wr,shl_one,shl_mn,Int.zero_sub] at *;first | done | (simp [*];done))
 | fail):c:=h
theorem LeT.p {c:Prop} [d:Decidable c] {X:Option A} {Y Z:Tree R} (h:c) (k:LeT m X Y):LeT m X (.tst c Y Z):=LeT.tstp h k
theorem LeT.n {c:Prop} [d:Decidable c] {X:Option A} {Y Z:Tree R} (h : ¬ c) (k:LeT m X Z):LeT m X (.tst c Y Z):=LeT.tstn h k
theorem eqs {D:Type} {x y:Option B} {q:B→D} (h:x=y):x.map q=y.map q:=congrArg _ h
theorem LeT.t {x:Option A} {y:Option R} (h:x.map m=y:=by first | exact rfl | exact eqs (if_pos by_).symm | (refine eqs ?_;congr 1<;>exact by_) | (refine eqs (Eq.trans ?_ (if_pos by_).symm);congr 1<;>exact by_)):LeT m x (.cll y .done):=LeT.tail h
theorem LeT.c {x:Option B} {q:B→C} {y:Option C} {F:B→Option A} {G:C→Tree R} (h : ∀ t,x=some t→LeT m (F t) (G (q t))) (hy:x.map q=y:=by first | exact rfl | (rw [← Int.zero_sub];exact rfl) | (simp only [wr,shl_one,shl_mn,Int.zero_sub];exact rfl) | (refine eqs ?_;congr 1<;>exact by_)):LeT m (x.bind F) (.cll y G):=LeT.call hy h
theorem LeT.ag {x:Option B} {t:B} {q:B→C} {y:Option C} {X:Option A} {G:C→Tree R} (hy:x.map q=y) (hx:x=some t) (h:LeT m X (G (q t))):LeT m X (.cll y G):=LeT.again hx hy h
theorem LeT.sb {a:B} {F:B→Option A} {y:Tree R} (h:LeT m (F a) y):LeT m ((some a).bind F) y:=h
theorem LeT.d {a:A} {r:R} (h:r=m a:=by first | exact rfl | (simp [wr, *];done) | (rw [wr_z];exact rfl) | (simp only [wr,Int.zero_sub];exact rfl) | (refine congrArg _ ?_;exact by_)):LeT m (some a) (.done r):=LeT.now h
end
theorem LeT.it {A R:Type} {m:A→R} {c:Prop} {X Y:Option A} {Z U:Tree R} [d:Decidable c] [d1:Decidable c] (h1:c→LeT m X Z) (h2 : ¬ c→LeT m Y U):LeT m (if c then X else Y) (.tst c Z U):=LeT.ite (fun h=>LeT.p h (h1 h)) (fun h=>LeT.n h (h2 h))
theorem LeT.ip {A R:Type} {m:A→R} {c:Prop} {X Y:Option A} {Z:Tree R} [d:Decidable c] (h:c) (k:LeT m X Z):LeT m (if c then X else Y) Z:=by rw [if_pos h];exact k
theorem LeT.ir {A R:Type} {m:A→R} {c:Prop} {X Y:Option A} {Z:Tree R} [d:Decidable c] (h : ¬ c) (k:LeT m Y Z):LeT m (if c then X else Y) Z:=by rw [if_neg h];exact k
theorem go {p:Prop} (h:p:=by
 (conv=>arg 3;whnf)
 repeat' (first | exact LeT.none | exact LeT.d | exact LeT.t | (with_reducible refine LeT.sb ?_) | (refine LeT.c fun t ht=> ?_;conv=>arg 3;whnf) | (refine LeT.p by_ ?_;conv=>arg 3;whnf) | (refine LeT.n by_ ?_;conv=>arg 3;whnf) | (refine LeT.ip (by first | assumption | exact rfl | (simp [wr, *];done) | fail) ?_) | (refine LeT.ir (by first | assumption | exact rfl | (simp [wr, *];done) | fail) ?_) | (refine LeT.ag rfl (by assumption) ?_;conv=>arg 3;whnf) | refine LeT.ite (fun h=> ?_) (fun h=> ?_))):p:=h
theorem goq {p:Prop} (h:p:=by
 (conv=>arg 3;whnf)
 repeat' (first | exact LeT.none | exact LeT.now rfl | exact LeT.tail rfl | (with_reducible refine LeT.sb ?_) | (refine LeT.call (by first | exact rfl | (rw [← Int.zero_sub];exact rfl) | (simp only [wr,shl_one,shl_mn,Int.zero_sub];exact rfl)) fun t ht=> ?_;conv=>arg 3;whnf) | (refine LeT.p (by first | assumption | exact rfl | (simp [wr, *];done) | fail) ?_;conv=>arg 3;whnf) | (refine LeT.n (by first | assumption | exact rfl | (simp [wr, *];done) | fail) ?_;conv=>arg 3;whnf) | (refine LeT.it (fun h=> ?_) (fun h=> ?_)<;>(conv=>arg 3;whnf)) | (refine LeT.ip (by first | assumption | exact rfl | (simp [wr, *];done) | fail) ?_) | (refine LeT.ir (by first | assumption | exact rfl | (simp [wr, *];done) | fail) ?_) | (refine LeT.ag rfl (by assumption) ?_;conv=>arg 3;whnf) | refine LeT.ite (fun h=> ?_) (fun h=> ?_) | (refine LeT.p (by first | (simp_all [wr];done) | (simp only [wr,shl_one,shl_mn,decide_eq_true_eq];omega) | fail) ?_;conv=>arg 3;whnf) | (refine LeT.n (by first | (simp_all [wr];done) | (simp only [wr,shl_one,shl_mn,decide_eq_true_eq];omega) | fail) ?_;conv=>arg 3;whnf))):p:=h
end Go.Proofs.YtjocbnjpjihpnaaW.Abs

end
section
namespace Go.Proofs.YtjocbnjpjihpnaaW.Abs
open Go.RowKit Go.Proofs.YtjocbnjpjihpnaaW.PrintWords Go.Proofs.YtjocbnjpjihpnaaW.PrintLast Go.Proofs.YtjocbnjpjihpnaaW.PrintMore
set_option linter.unusedVariables false

section
variable {U:Nat→Prop} {w w':World} {e:TypeId} {k:IntKind}
theorem row_rd {A:Option Addr} {c:Nat} {xs:List Int} (hc:Kd.C (Kd.int k) w A xs.length xs) (hl:xs.length≤c):Rd (fun _=>False) w (.row e (.int k)) xs [.slice A xs.length c]:=by
 refine ⟨A,c,rfl,hl,hc.2.1,fun hn=> ?_⟩
 obtain ⟨ad,ha,hcell⟩:=hc.2.2 hn
 refine ⟨ad,ha,fun j p hp=>⟨[.int k p],rfl,fun i u hu W hs hb=> ?_⟩⟩
 obtain ⟨c',hc1,hc2,hc3⟩:=hcell j p hp
 have hc2:c'= [.int k p]:=hc2
 subst hc2
 have h:w.cell? (ad.add (j*(Ty.int k).size+i))=some u:=hc3 i u hu
 have hlt:=World.block_lt_of_cell? w _ h
 show W.cell? (ad.add (j*(Ty.int k).size+i))=some u
 rw [← h]
 unfold World.cell?
 rw [hb _ hlt (fun q=>q)]
theorem res_bool {r:Bool} {v:Value} (h:ResR U w [.bool] (r,()) v):v= .bool r:=by
 obtain ⟨us,rfl,h⟩:=h
 match us,h with
 | [u],⟨⟨cs,h1,h2⟩,_⟩ =>
   have h2:cs= [.bool r]:=h2
   subst h2
   exact h1
theorem ArgR.cons {t:Ty} {ts:List Ty} {x:TT (t::ts)} {vs:List Value} (h:ArgR U w (t::ts) x vs) : ∃ cs vs',vs=mkV cs::vs'∧Rd U w t x.1 cs∧ArgR U w ts x.2 vs':=by
 cases vs with
 | nil=>exact h.elim
 | cons v vs=>obtain ⟨⟨cs,rfl,h1⟩,h2⟩:=h;exact ⟨cs,vs,rfl,h1,h2⟩
end
end Go.Proofs.YtjocbnjpjihpnaaW.Abs

end
