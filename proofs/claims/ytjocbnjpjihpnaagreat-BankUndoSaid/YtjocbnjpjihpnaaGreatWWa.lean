/- Words for walks over printed functions: those that are used here, as a program has laid them. -/
import Derived.Below
import Derived.Deep.Draws
import Derived.Deep.AppendLies
import Derived.Maps.AppendAt
import Derived.OwnWalk
import Derived.Laws.BytesArg
import Derived.Laws.MakeOwn
import Derived.Laws.OwnMore
import Derived.Deep.OwnRows
import Derived.Tactics
import Derived.Lib.ConvBytes
import Derived.Laws.Slices
import Derived.WalkKit
import Derived.KernelRfl
import Derived.RowKit3
import Derived.Deep.LoopGhost
import Derived.Deep.QuietTactic
import Derived.BigQuiet
import Derived.WideLaws
import Derived.Deep.DeepCutAuto
import Derived.Deep.CutBlock
import Derived.Deep.RegionHeld3
import Derived.Laws.Rows
import Derived.Lib.AppendStr
import Derived.ArgAppend
import Derived.Laws.IdiomCopy
import Derived.RowKit
import Derived.OrdersHeld
import Derived.Laws.BitsLemmas
import Derived.Laws.StructEq
import Derived.SizedLaws
import Derived.ChangeSlices
namespace Go.Proofs
abbrev ANG:=@List.mem_cons_of_mem
abbrev ANH:=@List.mem_cons_self
abbrev ANI:=@Int.toNat_natCast
abbrev ANJ:=@List.getD_eq_getElem?_getD
abbrev ANK:=@List.mem_append_right
abbrev ANL:=@Int.le_of_lt
abbrev ANM:=@List.mem_cons
abbrev ANN:=@List.getElem?_eq_some_iff
abbrev ANO:=@List.length_take
abbrev ANP:=@List.mem_append_left
abbrev ANQ:=@Bool.and_eq_true
abbrev ANR:=@Int.eq_ofNat_of_zero_le
abbrev ANS:=@Nat.le_refl
abbrev ANT:=@List.length_append
abbrev ANU:=@Int.mul_le_mul_of_nonneg_right
abbrev ANV:=@Nat.mul_le_mul_right
abbrev ANW:=@List.take_of_length_le
abbrev ANX:=@List.getElem?_eq_getElem
abbrev ANY:=@Int.mul_comm
abbrev ANZ:=@Int.mul_nonneg
abbrev ANa:=@Int.mul_ediv_add_emod
abbrev ANb:=@Nat.min_eq_left
abbrev ANc:=@Int.pow_zero
abbrev ANd:=@Int.ediv_nonneg
abbrev ANe:=@Int.mul_le_mul_of_nonneg_left
abbrev ANf:=@List.getElem?_set_ne
abbrev ANg:=@List.getElem?_take
abbrev ANh:=@Int.emod_lt_of_pos
abbrev ANi:=@Int.pow_succ
abbrev ANj:=@List.getElem?_drop
abbrev ANk:=@Int.emod_nonneg
abbrev ANl:=@Int.pow_add
abbrev ANm:=@Int.ediv_lt_iff_lt_mul
abbrev ANn:=@List.drop_eq_nil_of_le
abbrev ANo:=@List.length_drop
abbrev ANp:=@List.mem_append
abbrev ANq:=@List.getElem?_eq_none
abbrev ANr:=@Int.mul_one
abbrev ANs:=@Nat.lt_or_ge
abbrev ANt:=@List.length_cons
abbrev ANu:=@Int.mul_assoc
abbrev ANv:=@Int.emod_eq_of_lt
abbrev ANw:=@Int.ediv_eq_zero_of_lt
abbrev ANx:=@List.map_cons
abbrev ANy:=@List.all_eq_true
abbrev ANz:=@Array.getD_eq_getD_getElem?
abbrev AN0:=@Int.ediv_ediv_of_nonneg
abbrev AN1:=@List.mem_map
abbrev AN2:=@List.getElem?_set_self
abbrev AN3:=@List.length_set
abbrev AN4:=@List.eq_nil_of_length_eq_zero
abbrev AN5:=@Int.tdiv_eq_ediv_of_nonneg
abbrev AN6:=@Nat.le_trans
abbrev AN7:=@Int.lt_or_le
abbrev AN8:=@List.getElem?_append_left
abbrev AN9:=@Nat.succ_mul
abbrev AOA:=@Int.add_mul_ediv_left
abbrev AOB:=@Nat.lt_of_lt_of_le
abbrev AOC:=@Option.map_eq_some_iff
abbrev AOD:=@Int.le_ediv_iff_mul_le
abbrev AOE:=@List.map_congr_left
abbrev AOF:=@Array.getElem?_eq_some_iff
abbrev AOG:=@List.getElem?_append_right
abbrev AOH:=@Int.tmod_eq_emod_of_nonneg
abbrev AOI:=@Int.add_mul_emod_self_left
abbrev AOJ:=@List.append_assoc
abbrev AOK:=@Int.ediv_le_self
abbrev AOL:=@Int.mul_lt_mul_of_pos_right
abbrev AOM:=@List.cons.inj
abbrev AON:=@Int.ediv_one
abbrev AOO:=@Option.bind_some
abbrev AOP:=@List.ext_getElem?
abbrev AOQ:=@List.nodup_cons
abbrev AOR:=@Int.mul_zero
abbrev AOS:=@Int.add_zero
abbrev AOT:=@List.take_length
abbrev AOU:=@List.mem_range
abbrev AOV:=@List.length_replicate
abbrev AOW:=@List.getElem?_cons_succ
abbrev AOX:=@List.getElem?_replicate
abbrev AOY:=@Int.mul_pos
abbrev AOZ:=@List.take_append_of_le_length
abbrev AOa:=@List.append_nil
abbrev AOb:=@List.prefix_refl
abbrev AOc:=@Bool.not_eq_true'
abbrev AOd:=@Int.zero_mul
abbrev AOe:=@List.map_append
abbrev AOf:=@List.getElem?_cons_zero
abbrev AOg:=@List.flatMap_cons
abbrev AOh:=@Int.mul_emod_right
abbrev AOi:=@Bool.or_eq_true
abbrev AOj:=@List.drop_append_of_le_length
abbrev AOl:=@Int.one_mul
abbrev AOm:=@List.take_append_drop
abbrev AOn:=@Option.bind_eq_some_iff
abbrev AOo:=@Nat.le_mul_of_pos_right
abbrev AOp:=@List.contains_eq_mem
abbrev AOq:=@List.mem_flatMap
abbrev AOr:=@Int.mul_lt_mul_of_pos_left
abbrev AOs:=@Int.mul_add
abbrev AOt:=@Nat.add_assoc
abbrev AOu:=@Int.emod_one
abbrev AOv:=@Int.pow_one
abbrev AOw:=@Int.add_mul
abbrev AOx:=@Int.mul_emod_mul_of_pos
abbrev AOy:=@Int.add_comm
abbrev AOz:=@List.flatMap_append
abbrev AO0:=@Int.neg_mul
abbrev AO1:=@List.setIfInBounds_toArray
abbrev AO2:=@Int.eq_of_mul_eq_mul_right
abbrev AO3:=@List.getElem_mem
abbrev AO4:=@List.set_cons_succ
abbrev AO5:=@Nat.add_mul
abbrev AO6:=@List.drop_eq_getElem_cons
abbrev AO7:=@List.take_succ_eq_append_getElem
abbrev AO8:=@List.getElem?_append
abbrev AO9:=@List.nil_append
abbrev APA:=@List.getElem?_map
abbrev APB:=@Nat.mul_comm
abbrev APC:=@Int.le_trans
abbrev APD:=@Nat.zero_add
abbrev APE:=@Prod.mk.injEq
abbrev APF:=@Int.le_refl
abbrev APG:=@List.drop_append
abbrev APH:=@List.foldlM_cons
abbrev API:=@List.take_take
abbrev APJ:=@Nat.eq_zero_or_pos
abbrev APK:=@List.mem_singleton
abbrev APL:=@Nat.add_sub_cancel
abbrev APM:=@List.length_singleton
abbrev APN:=@Option.some.inj
abbrev APO:=@List.foldlM_nil
abbrev APP:=@Int.natCast_mul
abbrev APQ:=@List.all_cons
abbrev APR:=@Option.some.injEq
abbrev APS:=@List.getElem?_set
abbrev APT:=@Int.lt_trichotomy
abbrev APU:=@List.mem_of_mem_take
abbrev APV:=@List.mem_of_mem_drop
abbrev APW:=@Int.le_of_lt_add_one
abbrev APX:=@Array.getElem?_eq_getElem
abbrev APY:=@List.drop_zero
abbrev APZ:=@List.take_zero
abbrev APa:=@Option.getD_some
abbrev APb:=@List.cons_append
abbrev APc:=@Array.length_toList
abbrev APd:=@List.getElem?_range
abbrev APe:=@Nat.testBit_two_pow
abbrev APf:=@List.take_succ_cons
abbrev APg:=@List.getElem?_take_of_lt
abbrev APh:=@Int.mul_ediv_cancel_left
abbrev APi:=@Option.map_some
abbrev APj:=@List.mem_singleton_self
abbrev APk:=@Array.getElem?_eq_none
abbrev APl:=@Nat.testBit_lt_two_pow
abbrev APm:=@Nat.zero_le
abbrev APn:=@List.nodup_append
abbrev APo:=@Nat.Coprime.dvd_of_dvd_mul_left
abbrev APp:=@List.drop_take
abbrev APq:=@Nat.testBit_or
abbrev APr:=@List.drop_drop
abbrev APs:=@Int.mul_le_mul
abbrev APt:=@Nat.div_lt_iff_lt_mul
abbrev APu:=@List.mem_iff_getElem?
abbrev APv:=@Nat.add_comm
abbrev APw:=@Array.getElem?_append
abbrev APx:=@Int.zero_sub
abbrev APy:=@Int.zero_add
abbrev APz:=@Nat.mod_eq_of_lt
abbrev AP0:=@List.map_toArray
abbrev AP1:=@Array.toList_inj
abbrev AP2:=@List.mem_iff_getElem
abbrev AP3:=@Int.ediv_emod_unique
abbrev AP4:=@Nat.eq_of_testBit_eq
abbrev AP5:=@List.replicate_succ'
abbrev AP6:=@Nat.lt_irrefl
abbrev AP7:=@Int.mul_ediv_mul_of_pos_left
abbrev AP8:=@List.range_succ
abbrev AP9:=@List.length_nil
abbrev AQA:=@Nat.two_pow_add_eq_or_of_lt
abbrev AQB:=@Int.mul_eq_zero
abbrev AQC:=@Int.natCast_pow
abbrev AQD:=@Int.mul_ediv_cancel
abbrev AQE:=@Array.toList_setIfInBounds
abbrev AQF:=@Int.lt_of_mul_lt_mul_right
abbrev AQG:=@List.map_nil
abbrev AQH:=@Nat.add_zero
abbrev AQI:=@List.set_cons_zero
abbrev AQJ:=@Nat.sub_self
abbrev AQK:=@Bool.false_eq_true
abbrev AQL:=@Int.add_emod_right
abbrev AQM:=@List.drop_left
abbrev AQN:=@Ne.symm
abbrev AQO:=@List.mapM_cons
abbrev AQP:=@List.take_left
abbrev AQQ:=@List.nodup_nil
abbrev AQR:=@List.mem_or_eq_of_mem_set
abbrev AQS:=@Int.mul_neg_of_neg_of_pos
abbrev AQT:=@Array.setIfInBounds_comm
abbrev AQU:=@Nat.lt_trichotomy
abbrev AQV:=@Int.mul_emod_left
abbrev AQW:=@Int.mul_tdiv_cancel_left
abbrev AQX:=@List.eq_of_mem_replicate
abbrev AQY:=@Nat.mul_one
abbrev AQZ:=@List.getLast?_cons_cons
abbrev AQa:=@Int.zero_ediv
abbrev AQb:=@List.length_eq_one_iff
abbrev AQc:=@List.range_succ_eq_map
abbrev AQd:=@Array.getElem?_toList
abbrev AQe:=@List.set_append_right
abbrev AQf:=@Nat.div_add_mod
abbrev AQg:=@Option.map_none
abbrev AQh:=@Nat.le_total
abbrev AQi:=@Rat.divInt_mul_divInt
abbrev AQj:=@Int.sub_mul
abbrev AQk:=@List.drop_nil
abbrev AQl:=@Int.ediv_zero
abbrev AQm:=@Array.ext'
abbrev AQn:=@Bool.true_or
abbrev AQo:=@List.map_map
abbrev AQp:=@Int.emod_def
abbrev AQq:=@Nat.gcd_comm
end Go.Proofs
set_option linter.unusedSimpArgs false
section
set_option linter.unusedVariables false
set_option linter.unusedSimpArgs false
namespace Go.Proofs.YtjocbnjpjihpnaaGreatW.AD
open Go.RowKit
structure Bc (p:Prop):Prop where mk::(out:p)
structure Fx (w w':World):Prop where mk::(out : ∃n,w'=w.drewN n)
theorem Fx.refl (w:World):Fx w w:=⟨⟨0,rfl⟩⟩
theorem Fx.step {w w':World} (h:Fx w w') (n:Nat):Fx w (w'.drewN n):=by
 obtain⟨m,rfl⟩:=h;exact⟨⟨m+n,World.drewN_drewN ..⟩⟩
theorem Fx.grown {w w':World} (h:Fx w w'):Grown w w':=by
 obtain⟨n,rfl⟩:=h;induction n with
 | zero=>exact Grown.refl _
 | succ n ih=>rw[<-World.drew_drewN];exact Grown.drew ih
theorem Fx.below {w w':World} (h:Fx w w'):Below w.heap.size w w':=by
 obtain⟨n,rfl⟩:=h;induction n with
 | zero=>exact Below.refl _ _
 | succ n ih=>rw[<-World.drew_drewN];exact ih.drew
def rd (xs:List Int) (i:Int):Int:=xs.getD i.toNat 0
def bt (s:ByteArray) (i:Int):Int:=if h:i.toNat<s.size then((s[i.toNat]'h).toNat:Int) else 0
theorem BG {w W:World} (h:Below w.heap.size w W) (o:Obj):Below w.heap.size w (W.alloc o):=h.alloc h.size o
theorem ZS {B:Nat} {w W:World} (h:Below B w W):Below B w W.drew:=⟨h.os,h.tape,h.output,h.size,h.block⟩
theorem Am {B:Nat} {w W:World} (h:Below B w W) (n:Nat):Below B w (W.drewN n):=⟨h.os,h.tape,h.output,h.size,h.block⟩
theorem qc {B:Nat} {w w1 w2:World} (h:Below B w w1) (hB:B<=w1.heap.size) (k:Below w1.heap.size w1 w2):Below B w w2 :=
 h.trans ⟨k.os,k.tape,k.output,k.size,λi hi=>k.block i (AOB hi hB)⟩
theorem ZT {w w1:World} (h:Below w.heap.size w w1) (row:Option Nat):w.grownBy w1 row:=⟨h.os,h.tape,h.output,h.size,λi hi _=>h.block i hi⟩
theorem Ml {w w1:World} (h:Below w.heap.size w w1) {a:Addr} {v:Value} (hc:w.cell? a=some v):w1.cell? a=some v:=(h.cell (World.block_lt_of_cell? w a hc)).trans hc
def EB (w:World) (k:IntKind) (A:Option Addr) (n:Nat) (xs:List Int):Prop :=
 xs.length=n/\n<=9223372036854775807/\(0<n-> ∃ad,A=some ad/\ ∀j,j<n->w.cell? (ad.add j)=some (.int k (xs.getD j 0)))
theorem EB.at_ {w:World} {k:IntKind} {A:Option Addr} {n:Nat} {xs:List Int} (h:EB w k A n xs) (i:Int) (h0:0<=i) (h1:i<n) : ∃ad,A=some ad/\w.cell? (ad.add i.toNat)=some (.int k (rd xs i)):=by
 obtain⟨ad,e,hc⟩:=h.2.2 (by omega);exact⟨ad,e,hc _ (by omega)⟩
theorem EB.below {w w1:World} {k:IntKind} {A:Option Addr} {n:Nat} {xs:List Int} (h:EB w k A n xs) (hb:Below w.heap.size w w1):EB w1 k A n xs :=
 ⟨h.1,h.2.1,λhn=>by
   obtain⟨ad,e,hc⟩:=h.2.2 hn;exact⟨ad,e,λj hj=>Ml hb (hc j hj)⟩⟩
theorem UR {w:World} {base:Nat} {e:TypeId} {size n:Nat} {v:Value} {xs:List Value} (h:w.ownsRow base e size v n xs) (k:Nat) (hk:v.ownBlock=some k):base<=k:=by
 rcases h.2 with⟨rfl,_⟩ | ⟨g,cap,cur,rfl,hb,_⟩
 · simp[Value.ownBlock] at hk
 · have:g=k:=by simpa[Value.ownBlock] using hk
   omega
theorem yN {w:World} {base:Nat} {e:TypeId} {size n:Nat} {v:Value} {xs:List Value} (h:w.ownsRow base e size v n xs) (k:Nat) (hk:v.ownBlock=some k):k<w.heap.size:=by
 rcases h.2 with⟨rfl,_⟩ | ⟨g,cap,cur,rfl,hb,hh,_⟩
 · simp[Value.ownBlock] at hk
 · have:g=k:=by simpa[Value.ownBlock] using hk
   subst this;exact(AOF.1 hh).1
theorem gy {w w1:World} {base:Nat} {e:TypeId} {size n:Nat} {v:Value} {xs:List Value} (h:w.ownsRow base e size v n xs) (hb:Below w.heap.size w w1):w1.ownsRow base e size v n xs :=
 h.kept (ZT hb none) (by cases v.ownBlock<;>simp)
theorem vZ {w w1:World} {base:Nat} {e:TypeId} {size n:Nat} {v:Value} {xs:List Value} (h:w.ownsRow base e size v n xs) {row:Option Nat} (hg:w.grownBy w1 row) (hne:v.ownBlock=none\/v.ownBlock≠row):w1.ownsRow base e size v n xs:=h.kept hg hne
theorem vk {w:World} {base n:Nat} {e:TypeId} {size:Nat} {v:Value} {xs:List Value} (h:w.ownsRow base e size v n xs) : ∃A c,v= .slice A n c:=by
 rcases h.2 with⟨rfl,rfl⟩ | ⟨g,cap,cur,rfl,_⟩
 · exact⟨none,0,rfl⟩
 · exact⟨_,cap,rfl⟩
section
variable {P:Program} {ops:Array Oper} {rest:List Oper} {o:Oper} {a:Act} {Q:Exit->Act->World->Prop}
end
section
variable {P:Program}
end
section
variable {P:Program} {ops:Array Oper} {rest:List Oper} {o:Oper} {a:Act} {Q:Exit->Act->World->Prop}
end
theorem EB.tu {w:World} {k:IntKind} {A:Option Addr} {n:Nat} {xs:List Int} (h:EB w k A n xs) (i:Nat) (hi:i<=n):EB w k A i (xs.take i):=by
 refine⟨by rw[ANO,h.1];omega,by have:=h.2.1;omega,λhp=> ?_⟩;obtain⟨ad,e,hc⟩:=h.2.2 (by omega);refine⟨ad,e,λj hj=> ?_⟩;rw[hc j (by omega)];simp[ANJ,hj]
def XN {α:Type} (a b:Option α):Prop:= ∀r,a=some r->b=some r
theorem XN.refl {α:Type} (a:Option α):XN a a:=λ_ h=>h
theorem XN.none {α:Type} (b:Option α):XN Option.none b:=λ_ h=>by cases h
theorem XN.trans {α:Type} {a b c:Option α} (h:XN a b) (k:XN b c):XN a c:=λr hr=>k r (h r hr)
theorem XN.ite {α:Type} {c:Prop} [Decidable c] {a a' b b':Option α} (h:XN a a') (k:XN b b'):XN (if c then a else b) (if c then a' else b'):=by
 split
 · exact h
 · exact k
theorem XN.bind {α β:Type} {a a':Option α} {f f':α->Option β} (h:XN a a') (k : ∀x,XN (f x) (f' x)):XN (a.bind f) (a'.bind f'):=by
 intro r hr;obtain⟨x,hx,hf⟩:=AOn.1 hr;exact AOn.2 ⟨x,h x hx,k x r hf⟩
theorem XN.map {α β:Type} {a a':Option α} (f:α->β) (h:XN a a'):XN (a.map f) (a'.map f):=by
 intro r hr;obtain⟨x,hx,hf⟩:=AOC.1 hr;exact AOC.2 ⟨x,h x hx,hf⟩
theorem XO {α:Type} {g:Nat->Option α} (h : ∀k,XN (g k) (g (k+1))) (k:Nat) : ∀j,XN (g k) (g (k+j))
 | 0=>XN.refl _
 | j+1=>(XO h k j).trans (h (k+j))
theorem WJ {α:Type} {g:Nat->Option α} (h : ∀k,XN (g k) (g (k+1))) {k k':Nat} (hk:k<=k') {r:α} (hr:g k=some r):g k'=some r:=by
 have:=XO h k (k'-k) r hr
 rwa [Nat.add_sub_cancel' hk] at this
theorem AF9 {α β:Type} {g:Nat->Option α} {f:Nat->Option β} (hg : ∀k,XN (g k) (g (k+1))) (hf : ∀k,XN (f k) (f (k+1))) {r:α} {q:β} (h : ∃k,g k=some r) (h' : ∃k,f k=some q) : ∃k,g k=some r/\f k=some q:=by
 obtain⟨k,hk⟩:=h;obtain⟨k',hk'⟩:=h';exact⟨max k k',WJ hg (Nat.le_max_left _ _) hk,WJ hf (Nat.le_max_right _ _) hk'⟩
def Bn {α:Type} (R:α->List Value->Prop) (size:Nat) (ps:List α) (cs:List Value):Prop :=
 cs.length=ps.length*size/\ ∀j p,ps[j]? =some p->R p ((cs.drop (j*size)).take size)
theorem Bn.none {α:Type} (R:α->List Value->Prop) (size:Nat):Bn R size [] []:=⟨by simp,λj p h=>by simp at h⟩
theorem Bn.snoc {α:Type} {R:α->List Value->Prop} {size:Nat} {ps:List α} {cs c:List Value} {p:α} (h:Bn R size ps cs) (hp:R p c) (hc:c.length=size):Bn R size (ps++ [p]) (cs++c):=by
 refine⟨by rw[ANT,h.1,hc,ANT,APM,AO5,Nat.one_mul],λj q hq=> ?_⟩;rcases ANs j ps.length with hj | hj
 · rw[AN8 hj] at hq
   have h1:j*size+size<=cs.length:=(by rw[h.1,<-AN9];exact ANV _ hj);have h2:=h.2 j q hq;rw[AOj (by omega),AOZ (by rw[ANo];omega)];exact h2
 · have hj':j=ps.length:=by
    have:=(ANN.1 hq).1;rw[ANT,APM] at this;omega
   subst hj';have yO:p=q:=(by simpa using hq);subst yO;rw[<-h.1,AQM,<-hc,AOT];exact hp
theorem Bn.Gh {α:Type} {R R':α->List Value->Prop} {size:Nat} {ps:List α} {cs:List Value} (h:Bn R size ps cs) (hR : ∀p c,R p c->R' p c):Bn R' size ps cs:=⟨h.1,λj p hj=>hR _ _ (h.2 j p hj)⟩
def Ef {α:Type} (R:α->List Value->Prop) (size:Nat) (w:World) (A:Option Addr) (n:Nat) (ps:List α):Prop :=
 ps.length=n/\n<=9223372036854775807/\(0<n-> ∃ad,A=some ad/\ ∀j p,ps[j]? =some p-> ∃c,c.length=size/\R p c/\ ∀i u,c[i]? =some u->w.cell? (ad.add (j*size+i))=some u)
theorem Ef.Gh {α:Type} {R R':α->List Value->Prop} {size:Nat} {w w1:World} {A:Option Addr} {n:Nat} {ps:List α} (h:Ef R size w A n ps) (hb:Below w.heap.size w w1) (hR : ∀p c,R p c->R' p c):Ef R' size w1 A n ps :=
 ⟨h.1,h.2.1,λhn=>by
   obtain⟨ad,e,hc⟩:=h.2.2 hn;refine⟨ad,e,λj p hj=> ?_⟩;obtain⟨c,hs,hr,hcell⟩:=hc j p hj;exact⟨c,hs,hR _ _ hr,λi u hu=>Ml hb (hcell i u hu)⟩⟩
theorem dK {α:Type} {R:α->List Value->Prop} {w:World} {base n size:Nat} {e:TypeId} {v:Value} {ps:List α} {cs:List Value} (h:w.ownsRow base e size v n cs) (hR:Bn R size ps cs) (hn:ps.length=n) :
 ∃A c,v= .slice A n c/\Ef R size w A n ps:=by
 rcases APJ n with h0 | h0
 · rcases h.2 with⟨rfl,rfl⟩ | ⟨g,cap,cur,rfl,_⟩
   · exact⟨none,0,rfl,hn,by omega,λhp=>absurd hp (by omega)⟩
   · exact⟨_,cap,rfl,hn,by omega,λhp=>absurd hp (by omega)⟩
 · obtain⟨g,cap,rfl,_,_⟩:=h.form h0
   have hm:n<=9223372036854775807:=by
    rcases h.2 with⟨_,h1⟩ | ⟨g',cap',cur,he,_,_,h1,h2,_⟩
    · omega
    · simp only[maxLen] at h2
      omega
   refine⟨_,cap,rfl,hn,hm,λ_=>⟨_,rfl,λj p hj=>⟨(cs.drop (j*size)).take size, ?_,hR.2 j p hj,λi u hu=> ?_⟩⟩⟩
   · have hjl:=(ANN.1 hj).1
     have h1:j*size+size<=cs.length:=(by rw[hR.1,<-AN9];exact ANV _ hjl);rw[ANO,ANo];omega
   · refine h.cells (g:=g) rfl _ u ?_
     rw[ANg] at hu;split at hu
     · rw[ANj] at hu
       exact hu
     · cases hu
section
variable {P:Program} {ops:Array Oper} {rest:List Oper} {o:Oper} {a:Act} {Q:Exit->Act->World->Prop}
theorem LG {w0 W:World} (base:Nat) (hgd:o.guard=none) (s x:Operand) (t e:TypeId) (z:Value) (size bytes:Nat)
 (ho:o.op= .call {callee:= .builtin .append,args:= #[s,x],argTypes:= #[t,t]})
 (ht:P.underlying t=some (.slice e)) (hinfo:(P.info? e).map (λi=>(i.zero,i.size,i.bytes))=some (some z,size,bytes)) (hz:z.cells.size=size) (hs0:0<size) (hb0:0<bytes)
 (v:Value) (n:Nat) (xs ys:List Value) (hs:a.eval s=v) (hx:a.eval x= .slice (some ⟨W.heap.size,0,none⟩) 1 1) (hys:ys.length=size) (h1 : ∀u∈ys,u.oneCell'=true)
 (HO:W.ownsRow base e size v n xs) (HB:Below base w0 W) (hbase:base<=W.heap.size) (hl:(n+1)*bytes<=140737488355328)
 (h : ∀v1 w1,w1.ownsRow base e size v1 (n+1) (xs++ys)->Below base w0 w1->W.grownBy w1 v.ownBlock->(v1.ownBlock=v.ownBlock\/ ∃b,v1.ownBlock=some b/\W.heap.size<=b)->wpList P ops Q rest (a.put o.dst v1) w1) :
 wpList P ops Q (o::rest) a (W.alloc (.cells ys.toArray e)):=by
 obtain⟨i0,hi,hzz⟩:=AOC.1 hinfo;simp only[APE] at hzz;obtain⟨qT,hz1,hz2⟩:=hzz;have hlen:n+1<=140737488355328:=AN6 (AOo _ hb0) hl;refine wpList_append_own_at (W.alloc (.cells ys.toArray e)) hgd s x t ho base e i0 z size bytes ht hi qT hz1 hz2 hz hs0 v n xs hs (HO.alloc _) ⟨W.heap.size,0,none⟩ 1 1 ys hx (by rw[hys];simp)
  (by simpa using World.news_of_block (cs:=ys.toArray) (t:=e) (fr:=(0,0)) (heap_alloc_new W (.cells ys.toArray e))) h1 (by simp only[maxLen];omega) hl (by simp;omega) ?_
 intro v1 w1 hown hg _ Mm;refine h v1 w1 hown ((HB.alloc hbase _).grown hg (by simp;omega) (UR HO)) (World.grownBy.trans (World.grownBy_alloc W _ _) hg) ?_;rcases Mm with Mm | Mm
 · exact .inl Mm
 · exact .inr ⟨_,Mm,by simp⟩
end
theorem AEW {w:World} {base:Nat} {e t:TypeId} {size n g:Nat} {v:Value} {xs:List Value} {cs:Array Value} (h:w.ownsRow base e size v n xs) (hg:w.heap[g]? =some (.cells cs t (0,0))) (hne:e≠t):some g≠v.ownBlock:=by
 rcases h.2 with⟨rfl,_⟩ | ⟨g',cap,cur,rfl,_,hh,_⟩
 · simp[Value.ownBlock]
 · intro he
   have:g=g':=(by simpa[Value.ownBlock] using he);subst this;rw[hg] at hh;injection hh with hh;injection hh with _ ht;exact hne ht.symm
theorem tv {w:World} {g:Nat} {t:TypeId} {cs:Array Value} (h:w.heap[g]? =some (.cells cs t (0,0))) (i:Nat) (u:Value):(w.setCell ⟨g,i,none⟩ u).heap[g]? =some (.cells (cs.setIfInBounds i u) t (0,0)):=by
 simp[World.setCell,Array.getElem?_modify,h]
theorem ZU {w:World} {g:Nat} {o:Obj} (h:w.heap[g]? =some o):g<w.heap.size:=(AOF.1 h).1
theorem Ik {w:World} {g:Nat} {t:TypeId} {cs:Array Value} (h:w.heap[g]? =some (.cells cs t (0,0))) (i:Nat):w.cell? ⟨g,i,none⟩=cs[i]? :=cell_of_row w g i cs t (0,0) h
theorem ZV {w:World} {g:Nat} {t:TypeId} {cs:Array Value} (h:w.heap[g]? =some (.cells cs t (0,0))) (i:Nat):w.frozen? ⟨g,i,none⟩=false:=by simp[World.frozen?,h]
def Ek (w w':World) (g:Nat) (row:Option Nat):Prop:=w.heap.size<=w'.heap.size/\ ∀i,i<w.heap.size->i≠g->some i≠row->w'.heap[i]? =w.heap[i]?
theorem Ek.refl (w:World) (g:Nat) (row:Option Nat):Ek w w g row:=⟨ANS _,λ_ _ _ _=>rfl⟩
theorem Ek.mD {w w1:World} (h:Below w.heap.size w w1) (g:Nat) (row:Option Nat):Ek w w1 g row:=⟨h.size,λi hi _ _=>h.block i hi⟩
theorem Ek.trans {w w1 w2:World} {g:Nat} {row AEX:Option Nat} (h:Ek w w1 g row) (k:Ek w1 w2 g AEX) (hr:AEX=row\/ ∃b,AEX=some b/\w.heap.size<=b):Ek w w2 g row :=
 ⟨AN6 h.1 k.1,λi hi hg hn=>by
   refine(k.2 i (AOB hi h.1) hg ?_).trans (h.2 i hi hg hn);rcases hr with rfl | ⟨b,rfl,hb⟩
   · exact hn
   · intro e
     injection e with e;omega⟩
theorem Ek.C4 {w w1:World} {g g':Nat} {row:Option Nat} {o:Obj} (h:Ek w w1 g row) (hb:w.heap[g']? =some o) (hg:g'≠g) (hr:some g'≠row):w1.heap[g']? =some o:=(h.2 g' (ZU hb) hg hr).trans hb
theorem Ek.own {w w1:World} {g:Nat} {row:Option Nat} {base:Nat} {e:TypeId} {size n:Nat} {v:Value} {xs:List Value} (h:Ek w w1 g row) (ho:w.ownsRow base e size v n xs) (hg:v.ownBlock≠some g) (hr:v.ownBlock=none\/v.ownBlock≠row):w1.ownsRow base e size v n xs:=by
 obtain⟨h1,h2⟩:=ho;refine⟨h1, ?_⟩;rcases h2 with h2 | ⟨b,cap,cur,rfl,hb,hh,r⟩
 · exact .inl h2
 · refine .inr ⟨b,cap,cur,rfl,hb,h.C4 hh ?_ ?_,r⟩
   · intro e
     exact hg (by rw[<-e];rfl)
   · rcases hr with hr | hr
     · simp[Value.ownBlock] at hr
     · exact hr
def Ev {α:Type} (g:Nat->Option α) (r:α):Prop:= ∃K,∀k,K<=k->g k=some r
theorem Ev.of {α:Type} {g:Nat->Option α} {r:α} (hg : ∀k,XN (g k) (g (k+1))) {k:Nat} (h:g k=some r):Ev g r:=⟨k,λ_ hk=>WJ hg hk h⟩
theorem Ev.now {α:Type} (r:α):Ev (λ_=>some r) r:=⟨0,λ_ _=>rfl⟩
theorem Ev.rounds {α:Type} {g:Nat->Option α} {r:α} (h:Ev g r) : ∃k,g k=some r:=by
 obtain⟨K,h⟩:=h;exact⟨K,h K (ANS _)⟩
theorem Ev.bind {α β:Type} {g:Nat->Option α} {f:Nat->α->Option β} {a:α} {r:β} (h:Ev g a) (k:Ev (λn=>f n a) r):Ev (λn=>(g n).bind (f n)) r:=by
 obtain⟨K,h⟩:=h;obtain⟨K',k⟩:=k;refine⟨max K K',λn hn=> ?_⟩;have h1:=h n (by omega);have h2:=k n (by omega);simp only[h1,AOO];exact h2
theorem Ev.step {α:Type} {g f:Nat->Option α} {r:α} (h : ∀k,g (k+1)=f k) (k:Ev f r):Ev g r:=by
 obtain⟨K,k⟩:=k;refine⟨K+1,λn hn=> ?_⟩;obtain⟨m,rfl⟩ : ∃m,n=m+1:=⟨n-1,by omega⟩;rw[h];exact k m (by omega)
theorem Ev.congr {α:Type} {g f:Nat->Option α} {r:α} (h : ∀k,g k=f k) (k:Ev f r):Ev g r:=by
 obtain⟨K,k⟩:=k;exact⟨K,λn hn=>(h n).trans (k n hn)⟩
section
variable {P:Program} {ops:Array Oper} {o:Oper} {a:Act} {Q:Exit->Act->World->Prop} {K:Act->World->Prop}
end
theorem ZW {w:World} {base base':Nat} {e:TypeId} {size n:Nat} {v:Value} {xs:List Value} (h:w.ownsRow base e size v n xs) (hb:base'<=base):w.ownsRow base' e size v n xs:=by
 obtain⟨h1,h2⟩:=h;refine⟨h1, ?_⟩;rcases h2 with h2 | ⟨g,cap,cur,rfl,hg,r⟩
 · exact .inl h2
 · exact .inr ⟨g,cap,cur,rfl,AN6 hb hg,r⟩
section
variable {α:Type} {enc:α->Value} {d:α}
def ABw (d:α) (xs:List α) (i:Int):α:=xs.getD i.toNat d
def C7 (enc:α->Value) (d:α) (w:World) (A:Option Addr) (n:Nat) (xs:List α):Prop :=
 xs.length=n/\n<=9223372036854775807/\(0<n-> ∃ad,A=some ad/\ ∀j,j<n->w.cell? (ad.add j)=some (enc (xs.getD j d)))
theorem C7.at_ {w:World} {A:Option Addr} {n:Nat} {xs:List α} (h:C7 enc d w A n xs) (i:Int) (h0:0<=i) (h1:i<n) : ∃ad,A=some ad/\w.cell? (ad.add i.toNat)=some (enc (ABw d xs i)):=by
 obtain⟨ad,e,hc⟩:=h.2.2 (by omega);exact⟨ad,e,hc _ (by omega)⟩
theorem C7.below {w w1:World} {A:Option Addr} {n:Nat} {xs:List α} (h:C7 enc d w A n xs) (hb:Below w.heap.size w w1):C7 enc d w1 A n xs :=
 ⟨h.1,h.2.1,λhn=>by
   obtain⟨ad,e,hc⟩:=h.2.2 hn;exact⟨ad,e,λj hj=>Ml hb (hc j hj)⟩⟩
theorem C7.tu {w:World} {A:Option Addr} {n:Nat} {xs:List α} (h:C7 enc d w A n xs) (i:Nat) (hi:i<=n):C7 enc d w A i (xs.take i):=by
 refine⟨by rw[ANO,h.1];omega,by have:=h.2.1;omega,λhp=> ?_⟩;obtain⟨ad,e,hc⟩:=h.2.2 (by omega);refine⟨ad,e,λj hj=> ?_⟩;rw[hc j (by omega)];simp[ANJ,hj]
end
section
variable {α:Type} {P:Program} {ops:Array Oper} {rest:List Oper} {o:Oper} {a:Act} {Q:Exit->Act->World->Prop}
end
section
variable {P:Program}
end
theorem AEY {w:World} {base n m c size:Nat} {e:TypeId} {A:Option Addr} {xs:List Value} (h:w.ownsRow base e size (.slice A m c) n xs):m<=c:=by
 rcases h.2 with⟨he,_⟩ | ⟨g,cap,cur,he,_,_,hnc,_⟩
 · injection he with _ h2 h3
   omega
 · injection he with _ h2 h3
   omega
def EH {α:Type} (R:α->List Value->Prop) (e:TypeId) (size:Nat) (w:World) (base:Nat) (v:Value) (ps:List α):Prop :=
 ∃inner,w.ownsRow base e size v ps.length inner/\Bn R size ps inner
section
variable {α:Type} {R R':α->List Value->Prop} {e:TypeId} {size:Nat} {w w1:World} {base:Nat} {v:Value} {ps:List α}
theorem EH.Gh (h:EH R e size w base v ps) (hR : ∀p c,R p c->R' p c):EH R' e size w base v ps:=by
 obtain⟨inner,ho,hr⟩:=h;exact⟨inner,ho,hr.Gh hR⟩
theorem EH.below (h:EH R e size w base v ps) (hb:Below w.heap.size w w1):EH R e size w1 base v ps:=by
 obtain⟨inner,ho,hr⟩:=h;exact⟨inner,gy ho hb,hr⟩
theorem EH.other (h:EH R e size w base v ps) {row:Option Nat} (hg:w.grownBy w1 row) (hne:v.ownBlock=none\/v.ownBlock≠row):EH R e size w1 base v ps:=by
 obtain⟨inner,ho,hr⟩:=h;exact⟨inner,vZ ho hg hne,hr⟩
theorem EH.keep (h:EH R e size w base v ps) {g:Nat} {t:TypeId} {cells:Array Value} (hb:w.heap[g]? =some (.cells cells t (0,0))) (ht:e≠t) (hk:Ek w w1 g none):EH R e size w1 base v ps:=by
 obtain⟨inner,ho,hr⟩:=h;exact⟨inner,hk.own ho (AQN (AEW ho hb ht)) (by cases v.ownBlock<;>simp),hr⟩
theorem EH.lower (h:EH R e size w base v ps) {base':Nat} (hb:base'<=base):EH R e size w base' v ps:=by
 obtain⟨inner,ho,hr⟩:=h;exact⟨inner,ZW ho hb,hr⟩
theorem EH.reads (h:EH R e size w base v ps) : ∃A c,v= .slice A ps.length c/\ps.length<=c/\Ef R size w A ps.length ps:=by
 obtain⟨inner,ho,hr⟩:=h;obtain⟨A,c,rfl,hrow⟩:=dK ho hr rfl;exact⟨A,c,rfl,AEY ho,hrow⟩
theorem EH.lit (W:World) (base:Nat) {inner:List Value} (hr:Bn R size ps inner) (hb:base<=W.heap.size) (hm:ps.length<=9223372036854775807) :
 EH R e size (W.alloc (.cells inner.toArray e)) base (.slice (some ⟨W.heap.size,0,none⟩) ps.length ps.length) ps:=by
 have h:=World.ownsRow_lit (base:=base) (e:=e) (size:=size) W inner.toArray ps.length hb (by simpa[maxLen] using hm) (by simpa using hr.1);exact⟨inner,by simpa using h,hr⟩
end
section
variable {P:Program} {ops:Array Oper} {rest:List Oper} {o:Oper} {a:Act} {Q:Exit->Act->World->Prop} {α:Type} {R:α->List Value->Prop}
theorem EH.append {w0 W:World} (base:Nat) (hgd:o.guard=none) (s x:Operand) (t e:TypeId) (z:Value) (size bytes:Nat)
 (ho:o.op= .call {callee:= .builtin .append,args:= #[s,x],argTypes:= #[t,t]})
 (ht:P.underlying t=some (.slice e)) (hinfo:(P.info? e).map (λi=>(i.zero,i.size,i.bytes))=some (some z,size,bytes)) (hz:z.cells.size=size) (hs0:0<size) (hb0:0<bytes)
 (v:Value) (ps:List α) (p:α) (cs:List Value) (hs:a.eval s=v) (hx:a.eval x= .slice (some ⟨W.heap.size,0,none⟩) 1 1) (hp:R p cs) (hcs:cs.length=size) (h1 : ∀u∈cs,u.oneCell'=true)
 (HO:EH R e size W base v ps) (HB:Below base w0 W) (hbase:base<=W.heap.size) (hl:(ps.length+1)*bytes<=140737488355328)
 (h : ∀v1 w1,EH R e size w1 base v1 (ps++ [p])->Below base w0 w1->W.grownBy w1 v.ownBlock->(v1.ownBlock=v.ownBlock\/ ∃b,v1.ownBlock=some b/\W.heap.size<=b)->wpList P ops Q rest (a.put o.dst v1) w1) :
 wpList P ops Q (o::rest) a (W.alloc (.cells cs.toArray e)):=by
 obtain⟨inner,hown,hr⟩:=HO;refine LG base hgd s x t e z size bytes ho ht hinfo hz hs0 hb0 v ps.length inner cs hs hx hcs h1 hown HB hbase hl ?_;intro v1 w1 yP hb1 hg1 ABx;exact h v1 w1 ⟨inner++cs,by rw[ANT,APM];exact yP,hr.snoc hp hcs⟩ hb1 hg1 ABx
end
section
variable {P:Program} {ops:Array Oper} {o:Oper} {a:Act} {Q:Exit->Act->World->Prop} {K:Act->World->Prop} {α:Type} {R:α->List Value->Prop}
end
theorem Ef.yQ {α:Type} {R:α->List Value->Prop} {size:Nat} {w:World} {ad:Addr} {n:Nat} {ps:List α} (h:Ef R size w (some ad) n ps) :
 ∃inner,Bn R size ps inner/\ ∀j u,inner[j]? =some u->w.cell? (ad.add j)=some u:=by
 have key : ∀m,m<=ps.length-> ∃inner,Bn R size (ps.take m) inner/\ ∀j u,inner[j]? =some u->w.cell? (ad.add j)=some u:=by
  intro m;induction m with
  | zero=>exact λ_=>⟨[],Bn.none _ _,λj u hu=>by simp at hu⟩
  | succ m ih =>
    intro hm;obtain⟨inner,hr,hc⟩:=ih (by omega);obtain⟨ad',he,hcell⟩:=h.2.2 (by have:=h.1;omega);injection he with he;subst he;obtain⟨c,hcl,hp,hcc⟩:=hcell m _ (ANX (show m<ps.length by omega));refine⟨inner++c, ?_,λj u hu=> ?_⟩
    · rw[AO7 (show m<ps.length by omega)]
      exact hr.snoc hp hcl
    · have hil:inner.length=m*size:=by rw[hr.1,ANO,ANb (by omega)]
      rcases ANs j inner.length with hj | hj
      · rw[AN8 hj] at hu
        exact hc j u hu
      · rw[AOG hj] at hu
        have:=hcc (j-inner.length) u hu
        rwa [hil,Nat.add_sub_cancel' (by omega)] at this
 obtain⟨inner,hr,hc⟩:=key ps.length (ANS _);rw[AOT] at hr;exact⟨inner,hr,hc⟩
section
variable {α:Type} {P:Program}
theorem C7.len_ {enc:α->Value} {d:α} {w:World} {A:Option Addr} {n:Nat} {xs:List α} (h:C7 enc d w A n xs):C7 enc d w A xs.length xs:=by rw[h.1];exact h
theorem dL (enc:α->Value) (d:α) (t e:TypeId) (kl:IntKind) {i:TypeInfo} (ht:P.underlying t=some (.slice e)) (hi:P.info? e=some i) (hsz:i.size=1) (A:Option Addr) (c:Nat) (xs:List α) (j:Int) (h0:0<=j) (hm:j<=xs.length) (hc:xs.length<=c) :
 (∀W:World,(Instr.slice t (.slice A xs.length c) none (some (.int kl j)) none).run P W= .ok (.slice A (xs.take j.toNat).length c) W) /\
   (∀w:World,C7 enc d w A xs.length xs->C7 enc d w A (xs.take j.toNat).length (xs.take j.toNat))/\(xs.take j.toNat).length<=c:=by
 have hl:(xs.take j.toNat).length=j.toNat:=by rw[ANO];omega
 refine⟨λW=> ?_,λw h=>by rw[hl];exact h.tu j.toNat (by omega),by rw[hl];omega⟩;have hel:P.elem t=e:=by simp[Program.elem,ht]
 have hu:P.underlying t=some (.slice (P.elem t)):=by rw[hel];exact ht
 have ha:(A.map λx=>x.add 0)=A:=by cases A<;>simp[Addr.add]
 rw[run_slice_h W t A xs.length c hu kl j h0 (by omega),hel,hl];simp[sizeOf,typeInfo,hi,hsz,sliced,Result.andThen,ha]
end
section
variable {P:Program} {ops:Array Oper} {rest:List Oper} {o:Oper} {a:Act} {Q:Exit->Act->World->Prop}
end
structure Kd (α:Type) where
 sz:Nat
 E:List Nat
 K:World->α->List Value->Prop
 M:World->Nat->(Nat->Prop)->α->List Value->Prop
 Dr : ∀ {w x cs},K w x cs->cs.length=sz
 Gc : ∀ {w x cs},K w x cs-> ∀u∈cs,u.oneCell'=true
 Ds : ∀ {w w1:World} {x cs},Below w.heap.size w w1->K w x cs->K w1 x cs
 Dz : ∀ {w base ok x cs},M w base ok x cs->K w x cs
 Cf : ∀ {w base ok ok' x cs},(∀k,ok k->ok' k)->M w base ok x cs->M w base ok' x cs
 C8 : ∀ {w:World} {base ok x cs},M w base ok x cs->M w base (λk=>ok k/\base<=k/\k<w.heap.size/\ ∃q,q∈E/\ ∃cells,w.heap[k]? =some (.cells cells q (0,0))) x cs
 D0 : ∀ {w w1:World} {base ok x cs},(∀k,ok k->w1.heap[k]? =w.heap[k]?)->M w base ok x cs->M w1 base ok x cs
 Dt : ∀ {w base base' ok x cs},base'<=base->M w base ok x cs->M w base' ok x cs
theorem yR {w w1:World} {base:Nat} {e:TypeId} {size n:Nat} {v:Value} {xs:List Value} (h:w.ownsRow base e size v n xs) (hm : ∀k,v.ownBlock=some k->w1.heap[k]? =w.heap[k]?):w1.ownsRow base e size v n xs:=by
 obtain⟨h1,h2⟩:=h;refine⟨h1, ?_⟩;rcases h2 with h2 | ⟨g,cap,cur,rfl,hg,hh,r⟩
 · exact .inl h2
 · exact .inr ⟨g,cap,cur,rfl,hg,(hm g (by simp[Value.ownBlock])).trans hh,r⟩
theorem vn {w:World} {base:Nat} {e:TypeId} {size n:Nat} {v:Value} {xs:List Value} (h:w.ownsRow base e size v n xs) (k:Nat) (hk:v.ownBlock=some k) : ∃cells,w.heap[k]? =some (.cells cells e (0,0)):=by
 rcases h.2 with⟨rfl,_⟩ | ⟨g,cap,cur,rfl,hg,hh,r⟩
 · simp[Value.ownBlock] at hk
 · have:g=k:=by simpa[Value.ownBlock] using hk
   subst this;exact⟨cur,hh⟩
namespace Kd
def C {α:Type} (d:Kd α) (w:World) (A:Option Addr) (n:Nat) (xs:List α):Prop:=Ef (d.K w) d.sz w A n xs
def R {α:Type} (d:Kd α) (e:Nat) (w:World) (base:Nat) (ok:Nat->Prop) (v:Value) (xs:List α):Prop :=
 (∀k,v.ownBlock=some k->ok k)/\EH (d.M w base (λk=>ok k/\some k≠v.ownBlock)) e d.sz w base v xs
section
variable {α:Type} {d:Kd α} {e:Nat} {w w1:World} {base:Nat} {ok ok':Nat->Prop} {v:Value} {xs:List α}
theorem N0 {A:Option Addr} {n:Nat} (h:d.C w A n xs) (hb:Below w.heap.size w w1):d.C w1 A n xs:=Ef.Gh h hb (λ_ _ hp=>d.Ds hb hp)
theorem ZX (h:d.R e w base ok v xs) (hok : ∀k,ok k->ok' k):d.R e w base ok' v xs:=⟨λk hk=>hok k (h.1 k hk),h.2.Gh (λ_ _ hp=>d.Cf (λk hk=>⟨hok k hk.1,hk.2⟩) hp)⟩
theorem Y3 (h:d.R e w base ok v xs):d.R e w base (λk=>ok k/\base<=k/\k<w.heap.size/\ ∃q,q∈e::d.E/\ ∃cells,w.heap[k]? =some (.cells cells q (0,0))) v xs:=by
 obtain⟨h0,inner,ho,hr⟩:=h;refine⟨λk hk=> ?_,inner,ho,hr.Gh (λ_ _ hp=>d.Cf (λk hk=> ?_) (d.C8 hp))⟩
 · obtain⟨cells,hc⟩:=vn ho k hk
   exact⟨h0 k hk,UR ho k hk,yN ho k hk,e,ANH,cells,hc⟩
 · obtain⟨⟨h1,h2⟩,h3,h4,q,hq,hc⟩:=hk
   exact⟨⟨h1,h3,h4,q,ANG _ hq,hc⟩,h2⟩
theorem qe (h:d.R e w base ok v xs) (hm : ∀k,ok k->w1.heap[k]? =w.heap[k]?):d.R e w1 base ok v xs:=by
 obtain⟨h0,inner,ho,hr⟩:=h;exact⟨h0,inner,yR ho (λk hk=>hm k (h0 k hk)),hr.Gh (λ_ _ hp=>d.D0 (λk hk=>hm k hk.1) hp)⟩
theorem Y4 {base':Nat} (h:d.R e w base ok v xs) (hb:base'<=base):d.R e w base' ok v xs:=by
 obtain⟨h0,inner,ho,hr⟩:=h;exact⟨h0,inner,ZW ho hb,hr.Gh (λ_ _ hp=>d.Dt hb hp)⟩
theorem AEZ (h:d.R e w base ok v xs) (hm : ∀k,ok k->k<w.heap.size->w1.heap[k]? =w.heap[k]?):d.R e w1 base ok v xs :=
 ZX (qe (Y3 h) (λk hk=>hm k hk.1 hk.2.2.1)) (λ_ hk=>hk.1)
theorem AEa {x:α} {cs:List Value} (h:d.M w base ok x cs) (hm : ∀k,ok k->k<w.heap.size->w1.heap[k]? =w.heap[k]?):d.M w1 base ok x cs :=
 d.Cf (λ_ hk=>hk.1) (d.D0 (λk hk=>hm k hk.1 hk.2.2.1) (d.C8 h))
theorem gz (h:d.R e w base ok v xs) (hb:Below w.heap.size w w1):d.R e w1 base ok v xs:=AEZ h (λk _ hk=>hb.block k hk)
theorem uA {x:α} {cs:List Value} (h:d.M w base ok x cs) (hb:Below w.heap.size w w1):d.M w1 base ok x cs:=AEa h (λk _ hk=>hb.block k hk)
theorem g6 (h:d.R e w base ok v xs) : ∃A c,v= .slice A xs.length c/\xs.length<=c/\d.C w A xs.length xs:=by
 obtain⟨A,c,he,hl,hr⟩:=EH.reads h.2;exact⟨A,c,he,hl,hr.Gh (Below.refl _ _) (λ_ _ hp=>d.Dz hp)⟩
theorem ABy (h:d.R e w base ok v xs) : ∃A c,v= .slice A xs.length c:=by
 obtain⟨A,c,he,_⟩:=g6 h;exact⟨A,c,he⟩
theorem ADa (h:d.R e w base ok v xs) : ∃inner,w.ownsRow base e d.sz v xs.length inner:=by
 obtain⟨_,inner,ho,_⟩:=h;exact⟨inner,ho⟩
end
def scalar {α:Type} (enc:α->Value) (h1 : ∀x,(enc x).oneCell'=true):Kd α where
 sz:=1
 E:= []
 K:=λ_ x cs=>cs= [enc x]
 M:=λ_ _ _ x cs=>cs= [enc x]
 Dr:=λh=>by rw[h];rfl
 Gc:=λh u hu=>by
  rw[h] at hu;rw[APK.1 hu];exact h1 _
 Ds:=λ_ h=>h
 Dz:=λh=>h
 Cf:=λ_ h=>h
 C8:=λh=>h
 D0:=λ_ h=>h
 Dt:=λ_ h=>h
def int (k:IntKind):Kd Int:=scalar (Value.int k) (λ_=>rfl)
def bool:Kd Bool:=scalar Value.bool (λ_=>rfl)
def string:Kd ByteArray:=scalar Value.string (λ_=>rfl)
def slice {α:Type} (e:Nat) (d:Kd α):Kd (List α) where
 sz:=1
 E:=e::d.E
 K:=λw xs cs=> ∃A c,cs= [.slice A xs.length c]/\xs.length<=c/\d.C w A xs.length xs
 M:=λw base ok xs cs=> ∃v,cs= [v]/\d.R e w base ok v xs
 Dr:=by
  rintro w x cs ⟨A,c,rfl,_⟩;rfl
 Gc:=by
  rintro w x cs ⟨A,c,rfl,_⟩ u hu;rw[APK.1 hu];rfl
 Ds:=by
  rintro w w1 x cs hb ⟨A,c,rfl,hl,hr⟩;exact⟨A,c,rfl,hl,N0 hr hb⟩
 Dz:=by
  rintro w base ok x cs ⟨v,rfl,h⟩;obtain⟨A,c,rfl,hl,hr⟩:=g6 h;exact⟨A,c,rfl,hl,hr⟩
 Cf:=by
  rintro w base ok ok' x cs hok ⟨v,rfl,h⟩;exact⟨v,rfl,ZX h hok⟩
 C8:=by
  rintro w base ok x cs ⟨v,rfl,h⟩;exact⟨v,rfl,Y3 h⟩
 D0:=by
  rintro w w1 base ok x cs hm ⟨v,rfl,h⟩;exact⟨v,rfl,qe h hm⟩
 Dt:=by
  rintro w base base' ok x cs hb ⟨v,rfl,h⟩;exact⟨v,rfl,Y4 h hb⟩
def pair {α β:Type} (a:Kd α) (b:Kd β):Kd (α × β) where
 sz:=a.sz+b.sz
 E:=a.E++b.E
 K:=λw x cs=> ∃c0 c1,cs=c0++c1/\a.K w x.1 c0/\b.K w x.2 c1
 M:=λw base ok x cs=> ∃c0 c1,cs=c0++c1/\a.M w base ok x.1 c0/\b.M w base ok x.2 c1
 Dr:=by
  rintro w x cs ⟨c0,c1,rfl,h0,h1⟩;rw[ANT,a.Dr h0,b.Dr h1]
 Gc:=by
  rintro w x cs ⟨c0,c1,rfl,h0,h1⟩ u hu;rcases ANp.1 hu with hu | hu
  · exact a.Gc h0 u hu
  · exact b.Gc h1 u hu
 Ds:=by
  rintro w w1 x cs hb ⟨c0,c1,rfl,h0,h1⟩;exact⟨c0,c1,rfl,a.Ds hb h0,b.Ds hb h1⟩
 Dz:=by
  rintro w base ok x cs ⟨c0,c1,rfl,h0,h1⟩;exact⟨c0,c1,rfl,a.Dz h0,b.Dz h1⟩
 Cf:=by
  rintro w base ok ok' x cs hok ⟨c0,c1,rfl,h0,h1⟩;exact⟨c0,c1,rfl,a.Cf hok h0,b.Cf hok h1⟩
 C8:=by
  rintro w base ok x cs ⟨c0,c1,rfl,h0,h1⟩;refine⟨c0,c1,rfl,a.Cf ?_ (a.C8 h0),b.Cf ?_ (b.C8 h1)⟩
  · rintro k ⟨h2,h3,h4,q,hq,hc⟩
    exact⟨h2,h3,h4,q,ANP _ hq,hc⟩
  · rintro k ⟨h2,h3,h4,q,hq,hc⟩
    exact⟨h2,h3,h4,q,ANK _ hq,hc⟩
 D0:=by
  rintro w w1 base ok x cs hm ⟨c0,c1,rfl,h0,h1⟩;exact⟨c0,c1,rfl,a.D0 hm h0,b.D0 hm h1⟩
 Dt:=by
  rintro w base base' ok x cs hb ⟨c0,c1,rfl,h0,h1⟩;exact⟨c0,c1,rfl,a.Dt hb h0,b.Dt hb h1⟩
def bot {α:Type} (sz:Nat) (E:List Nat):Kd α where
 sz:=sz
 E:=E
 K:=λ_ _ _=>False
 M:=λ_ _ _ _ _=>False
 Dr:=λh=>h.elim
 Gc:=λh=>h.elim
 Ds:=λ_ h=>h
 Dz:=λh=>h
 Cf:=λ_ h=>h
 C8:=λh=>h
 D0:=λ_ h=>h
 Dt:=λ_ h=>h
def upto {α:Type} (F:Kd α->Kd α) (sz:Nat) (E:List Nat):Nat->Kd α
 | 0=>bot sz E
 | n+1=>F (upto F sz E n)
theorem qg {α:Type} {d:Kd α} {e base:Nat} {ok TZ:Nat->Prop} {W w1:World} {v v1:Value} {xs:List α} {p:α} {inner cs:List Value} (h0 : ∀k,v.ownBlock=some k->ok k) (hr:Bn (d.M W base (λk=>ok k/\some k≠v.ownBlock)) d.sz xs inner) (hp:d.M W base TZ p cs) (g8 : ∀k,TZ k->ok k/\some k≠v.ownBlock) (LH : ∀k,W.heap.size<=k->ok k)
 (hown:w1.ownsRow base e d.sz v1 (xs.length+1) (inner++cs)) (hg:W.grownBy w1 v.ownBlock) (Mm:v1.ownBlock=v.ownBlock\/ ∃b,v1.ownBlock=some b/\W.heap.size<=b):d.R e w1 base ok v1 (xs++ [p]):=by
 have hne : ∀k,some k≠v.ownBlock->k<W.heap.size->some k≠v1.ownBlock:=by
  intro k hk hlt;rcases Mm with Mm | ⟨b,hb,hle⟩
  · rw[Mm];exact hk
  · rw[hb]
    intro he;injection he with he;omega
 have step : ∀ {q:α} {c:List Value} {o:Nat->Prop},d.M W base o q c->(∀k,o k->ok k/\some k≠v.ownBlock)->d.M w1 base (λk=>ok k/\some k≠v1.ownBlock) q c:=by
  intro q c o hq ho;have h1:=d.D0 (w1:=w1) (λk hk=>hg.block k hk.2.2.1 (ho k hk.1).2) (d.C8 hq);exact d.Cf (λk hk=>⟨(ho k hk.1).1,hne k (ho k hk.1).2 hk.2.2.1⟩) h1
 refine⟨λk hk=> ?_,inner++cs,by rw[ANT,APM];exact hown, ?_⟩
 · rcases Mm with Mm | ⟨b,hb,hle⟩
   · exact h0 k (Mm▸hk)
   · rw[hb] at hk
     injection hk with hk;exact LH k (by omega)
 · exact(hr.Gh (λ_ _ hq=>step hq (λ_ hk=>hk))).snoc (step hp g8) (d.Dr (d.Dz hp))
section
variable {P:Program} {ops:Array Oper} {rest:List Oper} {o:Oper} {a:Act} {Q:Exit->Act->World->Prop} {α:Type}
theorem mE (d:Kd α) {w0 W:World} (base:Nat) (hgd:o.guard=none) (s x:Operand) (t e:TypeId) (z:Value) (bytes:Nat)
 (ho:o.op= .call {callee:= .builtin .append,args:= #[s,x],argTypes:= #[t,t]})
 (ht:P.underlying t=some (.slice e)) (hinfo:(P.info? e).map (λi=>(i.zero,i.size,i.bytes))=some (some z,d.sz,bytes)) (hz:z.cells.size=d.sz) (hs0:0<d.sz) (hb0:0<bytes)
 (v:Value) (xs:List α) (p:α) (cs:List Value) (ok TZ:Nat->Prop) (hs:a.eval s=v) (hx:a.eval x= .slice (some ⟨W.heap.size,0,none⟩) 1 1) (hp:d.M W base TZ p cs) (g8 : ∀k,TZ k->ok k/\some k≠v.ownBlock) (LH : ∀k,W.heap.size<=k->ok k)
 (HO:d.R e W base ok v xs) (HB:Below base w0 W) (hbase:base<=W.heap.size) (hl:(xs.length+1)*bytes<=140737488355328)
 (h : ∀v1 w1,d.R e w1 base ok v1 (xs++ [p])->Below base w0 w1->W.grownBy w1 v.ownBlock->(v1.ownBlock=v.ownBlock\/ ∃b,v1.ownBlock=some b/\W.heap.size<=b)->wpList P ops Q rest (a.put o.dst v1) w1) :
 wpList P ops Q (o::rest) a (W.alloc (.cells cs.toArray e)):=by
 obtain⟨h0,inner,hown,hr⟩:=HO;refine LG base hgd s x t e z d.sz bytes ho ht hinfo hz hs0 hb0 v xs.length inner cs hs hx (d.Dr (d.Dz hp)) (d.Gc (d.Dz hp)) hown HB hbase hl ?_;intro v1 w1 yP hb1 hg1 ABx;exact h v1 w1 (qg h0 hr hp g8 LH yP hg1 ABx) hb1 hg1 ABx
end
section
variable {P:Program} {ops:Array Oper} {o:Oper} {a:Act} {Q:Exit->Act->World->Prop} {Kc:Act->World->Prop} {α:Type}
end
theorem qi {α:Type} {enc:α->Value} {d:α} {h1 : ∀x,(enc x).oneCell'=true} {w:World} {A:Option Addr} {n:Nat} {xs:List α} (h:C7 enc d w A n xs):(scalar enc h1).C w A n xs:=by
 refine⟨h.1,h.2.1,λhn=> ?_⟩;obtain⟨ad,e,hc⟩:=h.2.2 hn;refine⟨ad,e,λj p hj=>⟨[enc p],rfl,rfl,λi u hu=> ?_⟩⟩;obtain⟨hl,hp⟩:=ANN.1 hj;have h2:=hc j (by have:=h.1;omega);rw[ANJ,hj] at h2;cases i with
 | zero =>
   have:enc p=u:=(by simpa using hu);subst this;simpa[scalar] using h2
 | succ i=>simp at hu
theorem ZY {α:Type} {enc:α->Value} {d:α} {h1 : ∀x,(enc x).oneCell'=true} {w:World} {A:Option Addr} {n:Nat} {xs:List α} (h:(scalar enc h1).C w A n xs):C7 enc d w A n xs:=by
 refine⟨h.1,h.2.1,λhn=> ?_⟩;obtain⟨ad,e,hc⟩:=h.2.2 hn;refine⟨ad,e,λj hj=> ?_⟩;have hl:j<xs.length:=by have:=h.1;omega
 obtain⟨c,_,hK,hcell⟩:=hc j _ (ANX hl);have hK':c= [enc xs[j]]:=hK;subst hK';have:=hcell 0 _ rfl;simpa[scalar,ANJ,ANX hl] using this
end Kd
namespace Kd
section
variable {α:Type} {F:Kd α->Kd α} {sz:Nat} {E:List Nat} {hs : ∀n,(upto F sz E n).sz=sz} {hE : ∀n q,q∈(upto F sz E n).E->q∈E}
end
end Kd
namespace Kd
end Kd
namespace Kd
section
variable {α β:Type} {d:Kd α} {d':Kd β} {e e':Nat} {w w1 W:World} {base b b':Nat} {ok ok' okv oku:Nat->Prop} {v u:Value} {xs:List α} {ys:List β}
theorem Jm (h:d.R e w base ok v xs) (o:Obj):d.R e (w.alloc o) base ok v xs:=gz h (BG (Below.refl _ _) o)
theorem Mn (h:d.R e w base ok v xs):d.R e w.drew base ok v xs:=gz h (ZS (Below.refl _ _))
theorem Jn (h:d.R e w base ok v xs) (m:Nat):d.R e (w.drewN m) base ok v xs:=gz h (Am (Below.refl _ _) m)
theorem US {A:Option Addr} {n:Nat} (h:d.C w A n xs) (o:Obj):d.C (w.alloc o) A n xs:=N0 h (BG (Below.refl _ _) o)
theorem ZZ {A:Option Addr} {n:Nat} (h:d.C w A n xs):d.C w.drew A n xs:=N0 h (ZS (Below.refl _ _))
theorem UT {A:Option Addr} {n:Nat} (h:d.C w A n xs) (m:Nat):d.C (w.drewN m) A n xs:=N0 h (Am (Below.refl _ _) m)
theorem mF {A:Option Addr} {n c:Nat} (h:d.R e w base ok (.slice A n c) xs):n=xs.length/\n<=c/\d.C w A xs.length xs:=by
 obtain⟨A',c',he,hl,hr⟩:=g6 h;injection he with h1 h2 h3;subst h1;exact⟨h2,by omega,hr⟩
theorem AJF (h:d.R e w base ok v xs) : ∀k,v.ownBlock=some k->k<w.heap.size:=by
 obtain⟨inner,ho⟩:=ADa h;exact yN ho
theorem AEb (h:d.R e w base ok v xs) : ∀k,v.ownBlock=some k->base<=k:=by
 obtain⟨inner,ho⟩:=ADa h;exact UR ho
end
section
variable {w W:World} {A:Option Addr} {n:Nat}
theorem qj {k:IntKind} {xs:List Int} (h:(Kd.int k).C w A n xs) (i:Int) (h0:0<=i) (h1:i<n) : ∃ad,A=some ad/\w.cell? (ad.add i.toNat)=some (.int k (rd xs i)) :=
 C7.at_ (ZY (enc:=Value.int k) (d:=(0:Int)) (h1:=λ_=>rfl) h) i h0 h1
variable {α:Type} {enc:α->Value} {h1 : ∀x,(enc x).oneCell'=true} {e base g cap:Nat} {ok:Nat->Prop} {xs:List α}
end
section
variable {P:Program} {ops:Array Oper} {rest:List Oper} {o:Oper} {a:Act} {Q:Exit->Act->World->Prop}
theorem eS {W w1:World} {v:Value} (hgd:o.guard=none) (hrun:(execOp a.eval o).run P W= .ok (.value v) w1) (h:wpList P ops Q rest (a.put o.dst v) w1):wpList P ops Q (o::rest) a W:=by
 refine wpList_plain hgd λK hK=> ?_
 unfold Oper.wp;rw[hrun];exact hK _ _ h
variable {α:Type}
theorem AGA (d:Kd α) {w0 W:World} (base e:Nat) (hgd:o.guard=none) {N:Tmp} (_hd:o.dst=some N) {xs:List α} {inner:List Value} {ok TZ:Nat->Prop}
 (hrun:(execOp a.eval o).run P W= .ok (.value (.slice (some ⟨W.heap.size,0,none⟩) xs.length xs.length)) (W.alloc (.cells inner.toArray e)))
 (qk:Bn (d.M W base TZ) d.sz xs inner) (hok : ∀k,TZ k->ok k) (LH:ok W.heap.size) (HB:Below base w0 W) (hbase:base<=W.heap.size) (hm:xs.length<=9223372036854775807)
 (h : ∀v1 w1,d.R e w1 base ok v1 xs->Below base w0 w1->W.grownBy w1 none->(∃b,v1.ownBlock=some b/\W.heap.size<=b)->wpList P ops Q rest (a.put o.dst v1) w1):wpList P ops Q (o::rest) a W:=by
 refine eS hgd hrun (h _ _ ⟨λk hk=> ?_,inner, ?_, ?_⟩ (HB.alloc hbase _) (World.grownBy_alloc W _ none) ⟨W.heap.size,by simp[Value.ownBlock],ANS _⟩)
 · have:W.heap.size=k:=by simpa[Value.ownBlock] using hk
   subst this;exact LH
 · have h2:=World.ownsRow_lit (base:=base) (e:=e) (size:=d.sz) W inner.toArray xs.length hbase (by simpa[maxLen] using hm) (by simpa using qk.1)
   simpa using h2
 · refine qk.Gh (λp c hp=>d.Cf (λk hk=>⟨hok k hk.1,λhe=> ?_⟩) (uA (d.C8 hp) (BG (Below.refl _ _) _)))
   have h3:k=W.heap.size:=(by simpa[Value.ownBlock] using he);have:=hk.2.2.1;omega
theorem eT {α:Type} {R:α->List Value->Prop} {z:Value} {size:Nat} {z0:α} (hz:z.cells.size=size) (hs:0<size) (h0:R z0 z.cells.toList) (m:Nat):Bn R size (List.replicate m z0) (madeCells z.cells (m*size)).toList:=by
 refine⟨by simp[size_madeCells],λj p hj=> ?_⟩;obtain⟨hjl,hp⟩:=ANN.1 hj;have hjm:j<m:=by simpa using hjl
 have B0:z0=p:=by simpa using hp
 subst B0;have hle:j*size+size<=m*size:=by rw[<-AN9];exact ANV _ hjm
 have:((madeCells z.cells (m*size)).toList.drop (j*size)).take size=z.cells.toList:=by
  apply List.ext_getElem
  · simp[size_madeCells,hz]
    omega
  · intro i h1 h2
    have hi:i<size:=(by rw[APc,hz] at h2;exact h2);have hmod:(j*size+i)%size=i:=by
     rw[APB,Nat.mul_add_mod];exact APz hi
    simp[madeCells,hz,hmod];rw[getElem!_pos z.cells i (by omega)]
 rw[this];exact h0
end
end Kd
theorem yS {w:World} {base n m c size:Nat} {e:TypeId} {A:Option Addr} {xs:List Value} (h:w.ownsRow base e size (.slice A n c) n xs) (hm:m<=n):w.ownsRow base e size (.slice A m c) m (xs.take (m*size)):=by
 obtain⟨h1,h2⟩:=h;refine⟨by rw[ANO,h1];exact ANb (ANV _ hm), ?_⟩;rcases h2 with⟨he,h0⟩ | ⟨g,cap,cur,he,hb,hh,hnc,hcm,hcs,ht⟩
 · injection he with ha _ hc
   subst ha;subst hc;exact .inl ⟨by rw[show m=0 by omega],by omega⟩
 · injection he with ha _ hc
   subst ha;subst hc;refine .inr ⟨g,c,cur,rfl,hb,hh,by omega,hcm,hcs, ?_⟩;rw[<-ht,API,ANb (ANV _ hm)]
section
variable {P:Program}
end
def yT (w:World) (base:Nat) (e:TypeId) (size:Nat) (v:Value) (n:Nat) (xs:List Value):Prop :=
 xs.length=n*size /\
 ((n=0/\ ∃A,v= .slice A 0 0/\ ∀a,A=some a->base<=a.block/\ ∃cur,w.heap[a.block]? =some (.cells cur e (0,0))) \/
  ∃g off cap cur,v= .slice (some ⟨g,off*size,none⟩) n cap/\base<=g/\w.heap[g]? =some (.cells cur e (0,0))/\n<=cap/\off+cap<=maxLen/\cur.size=(off+cap)*size/\(cur.toList.drop (off*size)).take (n*size)=xs)
section
variable {w w1:World} {base n size:Nat} {e:TypeId} {v:Value} {xs:List Value}
theorem ABz (h:yT w base e size v n xs) (k:Nat) (hk:v.ownBlock=some k):base<=k/\ ∃cells,w.heap[k]? =some (.cells cells e (0,0)):=by
 rcases h.2 with⟨_,A,rfl,hA⟩ | ⟨g,off,cap,cur,rfl,hg,hh,r⟩
 · cases A with
   | none=>simp[Value.ownBlock] at hk
   | some a =>
     have:a.block=k:=(by simpa[Value.ownBlock] using hk);subst this;exact hA a rfl
 · have:g=k:=by simpa[Value.ownBlock] using hk
   subst this;exact⟨hg,cur,hh⟩
theorem AB0 (h:yT w base e size v n xs) : ∃A c,v= .slice A n c/\n<=c:=by
 rcases h.2 with⟨h0,A,rfl,_⟩ | ⟨g,off,cap,cur,rfl,hg,hh,hnc,r⟩
 · exact⟨A,0,by rw[h0],by omega⟩
 · exact⟨_,cap,rfl,hnc⟩
theorem AGB (h:yT w base e size v n xs):n<=9223372036854775807:=by
 rcases h.2 with⟨h0,_⟩ | ⟨g,off,cap,cur,rfl,hg,hh,hnc,hm,r⟩
 · omega
 · simp only[maxLen] at hm
   omega
theorem Hf (g o j:Nat):(⟨g,o,none⟩:Addr).add j=⟨g,o+j,none⟩:=by unfold Addr.add;split<;>simp_all
theorem uB {A:Option Addr} {c:Nat} (h:yT w base e size (.slice A n c) n xs) (hn:0<n) : ∃ad,A=some ad/\ ∀j u,xs[j]? =some u->w.cell? (ad.add j)=some u:=by
 rcases h.2 with⟨h0,_⟩ | ⟨g,off,cap,cur,he,hg,hh,hnc,hm,hcs,ht⟩
 · omega
 · injection he with ha _ hc
   subst ha;refine⟨_,rfl,λj u hu=> ?_⟩;rw[Hf,cell_of_row w g _ cur e (0,0) hh];rw[<-ht,ANg] at hu;split at hu
   · rw[ANj] at hu
     rw[<-AQd];exact hu
   · cases hu
theorem UU {g:Nat} : ∀(vs:List Value) (o:Nat) {w:World} (k:Nat),k≠g->(w.setCells g o vs).heap[k]? =w.heap[k]?
 | [],_,_,_,_=>rfl
 | v::r,o,w,k,hk=>by
   rw[World.setCells,UU r (o+1) k hk];exact Below.heap_setCell w ⟨g,o,none⟩ v k hk
theorem Sr (g:Nat) : ∀(vs:List Value) (o:Nat) (w:World),(w.setCells g o vs).os=w.os/\(w.setCells g o vs).tape=w.tape/\(w.setCells g o vs).output=w.output/\(w.setCells g o vs).heap.size=w.heap.size
 | [],_,_=>⟨rfl,rfl,rfl,rfl⟩
 | v::r,o,w=>by
   obtain⟨h1,h2,h3,h4⟩:=Sr g r (o+1) (w.setCell ⟨g,o,none⟩ v);rw[World.setCells];exact⟨h1,h2,h3,by rw[h4];simp[World.setCell]⟩
theorem UW {g:Nat} {e:TypeId} : ∀(vs:List Value) (o:Nat) (w:World) (cur:Array Value),w.heap[g]? =some (.cells cur e (0,0))->o+vs.length<=cur.size ->
 ∃cur',(w.setCells g o vs).heap[g]? =some (.cells cur' e (0,0))/\cur'.size=cur.size/\cur'.toList=cur.toList.take o++vs++cur.toList.drop (o+vs.length)
 | [],o,w,cur,h,_=>⟨cur,h,rfl,by simp⟩
 | v::r,o,w,cur,h,hl=>by
   have h2:=tv h o v;simp only[ANt] at hl;obtain⟨cur',h3,h4,h5⟩:=UW r (o+1) (w.setCell ⟨g,o,none⟩ v) _ h2 (by simp;omega);refine⟨cur',h3,by rw[h4];simp, ?_⟩;rw[h5,AQE];have ho:o<cur.toList.length:=(by rw[APc];omega);rw[List.take_set,List.drop_set_of_lt (by omega)];simp only[ANt];rw[show o+1+r.length=o+(r.length+1) by omega]
   congr 1
   rw[AO7 ho,AQe _ _ (by rw[ANO];omega)];have ho':o<cur.size:=(by omega);simp[ANb (Nat.le_of_lt ho')]
end
section
variable {P:Program}
end
namespace Kd
theorem RX {α:Type} {R:α->List Value->Prop} {size m:Nat} {ps:List α} {cs:List Value} (h:Bn R size ps cs) (hm:m<=ps.length):Bn R size (ps.take m) (cs.take (m*size)):=by
 refine⟨by rw[ANO,ANO,h.1,ANb hm,ANb (ANV _ hm)],λj p hj=> ?_⟩;rw[ANg] at hj;split at hj
 · rename_i hjm
   have:=h.2 j p hj;have hle:j*size+size<=m*size:=(by rw[<-AN9];exact ANV _ hjm);rw[APp,API,ANb (by omega)];exact this
 · cases hj
theorem AEc {α:Type} {d:Kd α} {e m n c:Nat} {w:World} {base:Nat} {ok:Nat->Prop} {A:Option Addr} {xs:List α} (h:d.R e w base ok (.slice A n c) xs) (hm:m<=xs.length):d.R e w base ok (.slice A m c) (xs.take m):=by
 obtain⟨h0,inner,ho,hr⟩:=h;have hn:n=xs.length:=by
  obtain⟨A',c',he⟩:=vk ho;injection he
 subst hn;have hb : ∀x y:Nat,(Value.slice A x c).ownBlock=(Value.slice A y c).ownBlock:=by
  intro x y;cases A<;>rfl
 refine⟨λk hk=>h0 k (by rw[hb _ m];exact hk),inner.take (m*d.sz), ?_, ?_⟩
 · rw[ANO,ANb hm]
   exact yS ho hm
 · rw[hb m xs.length]
   exact RX hr hm
def Q {α:Type} (d:Kd α) (e:Nat) (w:World) (base:Nat) (ok:Nat->Prop) (v:Value) (xs:List α):Prop :=
 (∀k,v.ownBlock=some k->ok k)/\ ∃inner,yT w base e d.sz v xs.length inner/\Bn (d.M w base (λk=>ok k/\some k≠v.ownBlock)) d.sz xs inner
section
variable {α:Type} {d:Kd α} {e:Nat} {w w1 W:World} {base:Nat} {ok ok':Nat->Prop} {v:Value} {xs:List α}
theorem Za {A:Option Addr} {n c:Nat} (h:d.Q e w base ok (.slice A n c) xs):n=xs.length/\n<=c/\d.C w A xs.length xs:=by
 obtain⟨_,inner,ho,hr⟩:=h;obtain⟨A',c',he,hl⟩:=AB0 ho;injection he with h1 h2 h3;subst h1;subst h2;subst h3;refine⟨rfl,hl,rfl,AGB ho,λhp=> ?_⟩;obtain⟨ad,ha,hc⟩:=uB ho hp;refine⟨ad,ha,λj p hj=>⟨(inner.drop (j*d.sz)).take d.sz, ?_,d.Dz (hr.2 j p hj),λi u hu=> ?_⟩⟩
 · have hjl:=(ANN.1 hj).1
   have h1:j*d.sz+d.sz<=inner.length:=(by rw[hr.1,<-AN9];exact ANV _ hjl);rw[ANO,ANo];omega
 · refine hc _ u ?_
   rw[ANg] at hu;split at hu
   · rw[ANj] at hu
     exact hu
   · cases hu
end
section
variable {P:Program} {ops:Array Oper} {rest:List Oper} {o:Oper} {a:Act} {Q':Exit->Act->World->Prop} {Kc:Act->World->Prop} {α:Type}
end
end Kd
namespace Kd
section
variable {α:Type} {d:Kd α} {e e':Nat} {w w1 W:World} {base:Nat} {ok:Nat->Prop} {u v:Value} {xs:List α}
theorem yU (hu:d.R e W base ok u xs) (hbase : ∀k,v.ownBlock=some k->W.heap.size<=k) (hb:Below W.heap.size W w1):d.R e w1 base (λk=>ok k/\some k≠v.ownBlock) u xs :=
 ZX (qe (Y3 hu) (λk hk=>hb.block k hk.2.2.1)) (λk hk=>⟨hk.1,λhe=>by have:=hbase k he.symm;have:=hk.2.2.1;omega⟩)
theorem AEd (h:d.R e w1 W.heap.size ok v xs) (hlt : ∀k,u.ownBlock=some k->k<W.heap.size):d.R e w1 W.heap.size (λk=>ok k/\some k≠u.ownBlock) v xs :=
 ZX (Y3 h) (λk hk=>⟨hk.1,λhe=>by have:=hlt k he.symm;have:=hk.2.1;omega⟩)
end
end Kd
theorem RY {α:Type} (a seg:List α) (o:Nat) (h:o+seg.length<=a.length) (q:Nat) :
 (a.take o++seg++a.drop (o+seg.length))[q]? =if q<o then a[q]? else if q<o+seg.length then seg[q-o]? else a[q]? :=by
 have hl:(a.take o).length=o:=by rw[ANO];omega
 rw[AOJ];by_cases h1:q<o
 · rw[if_pos h1,AN8 (by omega),ANg,if_pos h1]
 · rw[if_neg h1,AOG (by omega),hl]
   by_cases h2:q<o+seg.length
   · rw[if_pos h2,AN8 (by omega)]
   · rw[if_neg h2,AOG (by omega),ANj]
     congr 1
     omega
namespace Kd
section
variable {α:Type} {d:Kd α} {e base g n cap:Nat} {ok TZ:Nat->Prop} {W:World} {xs:List α}
end
end Kd
namespace Kd
def fixed {α:Type} (d:Kd α) (w0:World):Kd α where
 sz:=d.sz
 E:= []
 K:=λ_ x cs=>d.K w0 x cs
 M:=λ_ _ _ x cs=>d.K w0 x cs
 Dr:=d.Dr
 Gc:=d.Gc
 Ds:=λ_ h=>h
 Dz:=λh=>h
 Cf:=λ_ h=>h
 C8:=λh=>h
 D0:=λ_ h=>h
 Dt:=λ_ h=>h
def or_ {α:Type} (a b:Kd α) (h:b.sz=a.sz):Kd α where
 sz:=a.sz
 E:=a.E++b.E
 K:=λw x cs=>a.K w x cs\/b.K w x cs
 M:=λw base ok x cs=>a.M w base ok x cs\/b.M w base ok x cs
 Dr:=λhk=>hk.elim a.Dr (λhk=>(b.Dr hk).trans h)
 Gc:=λhk=>hk.elim a.Gc b.Gc
 Ds:=λhb hk=>hk.imp (a.Ds hb) (b.Ds hb)
 Dz:=λhk=>hk.imp a.Dz b.Dz
 Cf:=λhok hk=>hk.imp (a.Cf hok) (b.Cf hok)
 C8:=λhk=>hk.imp
  (λhk=>a.Cf (λ_ ⟨h1,h2,h3,q,hq,hc⟩=>⟨h1,h2,h3,q,ANP _ hq,hc⟩) (a.C8 hk))
  (λhk=>b.Cf (λ_ ⟨h1,h2,h3,q,hq,hc⟩=>⟨h1,h2,h3,q,ANK _ hq,hc⟩) (b.C8 hk))
 D0:=λhm hk=>hk.imp (a.D0 hm) (b.D0 hm)
 Dt:=λhb hk=>hk.imp (a.Dt hb) (b.Dt hb)
section
variable {α:Type} {F:Kd α->Kd α} {sz:Nat} {E:List Nat} {hs : ∀n,(upto F sz E n).sz=sz} {hE : ∀n q,q∈(upto F sz E n).E->q∈E}
end
end Kd
namespace Kd
theorem mG {α:Type} {R:α->List Value->Prop} {size:Nat} {ps qs:List α} {cs ds:List Value} (h:Bn R size ps cs) (h':Bn R size qs ds):Bn R size (ps++qs) (cs++ds):=by
 refine⟨by rw[ANT,ANT,h.1,h'.1,AO5],λj p hj=> ?_⟩;rcases ANs j ps.length with hlt | hge
 · rw[AN8 hlt] at hj
   have hle:j*size+size<=cs.length:=(by rw[h.1,<-AN9];exact ANV _ hlt);rw[AOj (by omega),AOZ (by rw[ANo];omega)];exact h.2 j p hj
 · rw[AOG hge] at hj
   have h2:=h'.2 (j-ps.length) p hj;have hle:ps.length*size<=j*size:=ANV _ hge;rw[APG,ANn (by rw[h.1];exact hle),AO9,h.1,<-Nat.sub_mul];exact h2
section
variable {P:Program} {ops:Array Oper} {rest:List Oper} {o:Oper} {a:Act} {Q:Exit->Act->World->Prop} {α:Type}
theorem dM (d:Kd α) {Rr:α->List Value->Prop} {w0 W:World} (base:Nat) (hgd:o.guard=none) (s x:Operand) (t e:TypeId) (z:Value) (bytes:Nat)
 (ho:o.op= .call {callee:= .builtin .append,args:= #[s,x],argTypes:= #[t,t]})
 (ht:P.underlying t=some (.slice e)) (hinfo:(P.info? e).map (λi=>(i.zero,i.size,i.bytes))=some (some z,d.sz,bytes)) (hz:z.cells.size=d.sz) (hs0:0<d.sz) (hb0:0<bytes)
 (v:Value) (xs ys:List α) (A:Option Addr) (m c:Nat) (ok TZ:Nat->Prop) (hs:a.eval s=v) (hx:a.eval x= .slice A m c)
 (HO:d.R e W base ok v xs) (HR:Ef Rr d.sz W A m ys) (hKM : ∀x cs,Rr x cs->d.M W base TZ x cs) (g8 : ∀k,TZ k->ok k/\some k≠v.ownBlock) (LH : ∀k,W.heap.size<=k->ok k)
 (HB:Below base w0 W) (hbase:base<=W.heap.size) (hl:(xs.length+m)*bytes<=140737488355328)
 (h : ∀v1 w1,d.R e w1 base ok v1 (xs++ys)->Below base w0 w1->W.grownBy w1 v.ownBlock->(v1.ownBlock=v.ownBlock\/ ∃b,v1.ownBlock=some b/\W.heap.size<=b)->wpList P ops Q rest (a.put o.dst v1) w1) :
 wpList P ops Q (o::rest) a W:=by
 obtain⟨i0,hi,hzz⟩:=AOC.1 hinfo;simp only[APE] at hzz;obtain⟨qT,hz1,hz2⟩:=hzz;have hm:ys.length=m:=HR.1;have hlen:xs.length+m<=140737488355328:=AN6 (AOo _ hb0) hl;obtain⟨hok,inner,hown,hr⟩:=HO;have hrun : ∃v1 w1,(Builtin.append_ #[t,t] o.type #[v, .slice A m c]).run P W= .ok v1 w1/\d.R e w1 base ok v1 (xs++ys)/\W.grownBy w1 v.ownBlock/\(v1.ownBlock=v.ownBlock\/ ∃b,v1.ownBlock=some b/\W.heap.size<=b):=by
  rcases A with _ | ad
  · have h0:m=0:=by
     rcases APJ m with h0 | h0
     · exact h0
     · obtain⟨ad,h,_⟩:=HR.2.2 h0
       cases h
    subst h0;obtain rfl:ys= []:=AN4 hm;refine⟨v,W, ?_,by rw[AOa];exact⟨hok,inner,hown,hr⟩,World.grownBy.refl W _, .inl rfl⟩;rcases hown.2 with⟨rfl,hn⟩ | ⟨g,cap,cur,rfl,_,_,hnc,_⟩
    · simp[Builtin.append_,run_underlying ht,sizeOf,typeInfo,hi,Builtin.lenOf,Builtin.firstCells]
    · simp[Builtin.append_,run_underlying ht,sizeOf,typeInfo,hi,Builtin.lenOf,Builtin.firstCells,hnc,storeCells]
  · obtain⟨news,hnr,hnc⟩:=Ef.yQ HR
    have hnM:Bn (d.M W base TZ) d.sz ys news:=hnr.Gh (λp c hp=>hKM p c hp);have hone : ∀u∈news,u.oneCell'=true:=by
     intro u hu;obtain⟨q,hq,rfl⟩:=AP2.1 hu;have yA:q/d.sz<ys.length:=by
      rw[APt hs0];rw[<-hnM.1];exact hq
     have hc:=hnM.2 (q/d.sz) _ (ANX yA);refine d.Gc (d.Dz hc) _ ?_;rw[APu];refine⟨q%d.sz, ?_⟩;rw[ANg,if_pos (Nat.mod_lt _ hs0),ANj,APB,AQf,ANX hq]
    obtain⟨v1,w1,hrun,h2,hg,_,Mm⟩:=run_append_own_at (P:=P) W base t o.type e i0 z d.sz bytes ht hi qT hz1 hz2 hz hs0 v xs.length inner hown ad m c news (by rw[hnM.1,hm]) hnc hone (by simp only[maxLen];omega) hl hbase;have AEe:v1.ownBlock=v.ownBlock\/ ∃b,v1.ownBlock=some b/\W.heap.size<=b:=by
     rcases Mm with Mm | Mm
     · exact .inl Mm
     · exact .inr ⟨_,Mm,ANS _⟩
    have hne : ∀k,some k≠v.ownBlock->k<W.heap.size->some k≠v1.ownBlock:=by
     intro k hk hlt;rcases AEe with Mm | ⟨b,hb,hle⟩
     · rw[Mm];exact hk
     · rw[hb]
       intro he;injection he with he;omega
    have step : ∀ {q:α} {c:List Value} {o:Nat->Prop},d.M W base o q c->(∀k,o k->ok k/\some k≠v.ownBlock)->d.M w1 base (λk=>ok k/\some k≠v1.ownBlock) q c:=by
     intro q c o hq ho;have h1:=d.D0 (w1:=w1) (λk hk=>hg.block k hk.2.2.1 (ho k hk.1).2) (d.C8 hq);exact d.Cf (λk hk=>⟨(ho k hk.1).1,hne k (ho k hk.1).2 hk.2.2.1⟩) h1
    refine⟨v1,w1,hrun,⟨λk hk=> ?_,inner++news,by rw[ANT,hm];exact h2,mG (hr.Gh (λ_ _ hq=>step hq (λ_ hk=>hk))) (hnM.Gh (λ_ _ hq=>step hq g8))⟩,hg,AEe⟩;rcases AEe with Mm | ⟨b,hb,hle⟩
    · exact hok k (Mm▸hk)
    · rw[hb] at hk
      injection hk with hk;exact LH k (by omega)
 obtain⟨v1,w1,vo,h1,hg,Mm⟩:=hrun;refine wpList_plain hgd λK hK=> ?_
 unfold Oper.wp execOp;simp only[ho,resolve,invoke,builtin,Sem.run_bind,Sem.run_pure,Result.andThen_ok,AP0,ANx,AQG,hs,hx,vo];exact hK _ _ (h v1 w1 h1 (HB.grown hg hbase (UR hown)) hg Mm)
end
end Kd
namespace Kd
section
variable {P:Program} {ops:Array Oper} {rest:List Oper} {o:Oper} {a:Act} {Q:Exit->Act->World->Prop} {α:Type}
end
end Kd
theorem add_add (a:Addr) (i j:Nat):(a.add i).add j=a.add (i+j):=by
 unfold Addr.add;by_cases h1:i=0<;>by_cases h2:j=0<;>simp[h1,h2,AOt]
namespace Kd
section
variable {α:Type} {k:Kd α} {w:World} {A:Option Addr} {xs:List α} {m c:Nat}
end
end Kd
section
variable {P:Program}
end
theorem JN {w W:World} (h:Below w.heap.size w W):w.heap.size<=W.heap.size:=h.size
theorem Ta {w W w2:World} (h:Below w.heap.size w W) (k:Below W.heap.size W w2):Below w.heap.size w w2:=qc h h.size k
theorem EB.nil (W:World) (k:IntKind):EB W k none ([]:List Int).length []:=⟨rfl,by simp,λh=>absurd h (AP6 0)⟩
theorem EB.drewN {W:World} {k:IntKind} {A:Option Addr} {n:Nat} {xs:List Int} (h:EB W k A n xs) (m:Nat):EB (W.drewN m) k A n xs:=h
theorem vp {w W:World} {g j:Nat} {v:Value} (h:Below w.heap.size w W) (hg:w.heap.size<=g):Below w.heap.size w (W.setCell ⟨g,j,none⟩ v):=h.setCell hg _
theorem eV {w W:World} {g:Nat} (h:Ek w W g none) {a:Addr} {v:Value} (hc:w.cell? a=some v) (hne:a.block≠g):W.cell? a=some v:=by
 have:=h.2 a.block (World.block_lt_of_cell? w a hc) hne (by simp);simpa[World.cell?,this] using hc
theorem add_block (a:Addr) (i:Nat):(a.add i).block=a.block:=by unfold Addr.add;split<;>rfl
theorem C7.nil {α:Type} (enc:α->Value) (d:α) (W:World):C7 enc d W none ([]:List α).length []:=⟨rfl,by simp,λh=>absurd h (AP6 0)⟩
theorem C7.drewN {α:Type} {enc:α->Value} {d:α} {W:World} {A:Option Addr} {n:Nat} {xs:List α} (h:C7 enc d W A n xs) (m:Nat):C7 enc d (W.drewN m) A n xs:=h
theorem EB.keep {w W:World} {k:IntKind} {A:Option Addr} {n g:Nat} {xs:List Int} (h:EB w k A n xs) (hk:Ek w W g none) (hf : ∀ad,A=some ad->0<n->ad.block≠g):EB W k A n xs :=
 ⟨h.1,h.2.1,λhn=>by
   obtain⟨ad,e,hc⟩:=h.2.2 hn;exact⟨ad,e,λj hj=>eV hk (hc j hj) (by rw[add_block];exact hf ad e hn)⟩⟩
theorem C7.keep {α:Type} {enc:α->Value} {d:α} {w W:World} {A:Option Addr} {n g:Nat} {xs:List α} (h:C7 enc d w A n xs) (hk:Ek w W g none) (hf : ∀ad,A=some ad->0<n->ad.block≠g):C7 enc d W A n xs :=
 ⟨h.1,h.2.1,λhn=>by
   obtain⟨ad,e,hc⟩:=h.2.2 hn;exact⟨ad,e,λj hj=>eV hk (hc j hj) (by rw[add_block];exact hf ad e hn)⟩⟩
theorem Bl {base:Nat} {w W:World} (h:Below base w W):Below base w W.drew:=h.drew
namespace Kd
section
variable {α β:Type} {d:Kd α} {d':Kd β} {e e' base base' n:Nat} {ok ok':Nat->Prop} {w W w1 W1:World} {v u:Value} {xs:List α} {ys:List β} {A:Option Addr} {c:Nat}
end
section
variable {α:Type} {enc:α->Value} {h1 : ∀x,(enc x).oneCell'=true} {w W:World} {A:Option Addr} {n g:Nat} {xs:List α}
end
end Kd
namespace Kd
section
variable {α:Type} {d:Kd α} {e base g:Nat} {ok:Nat->Prop} {w w1:World} {v:Value} {xs:List α} {o:Obj}
end
end Kd
section
variable {P:Program} {ops:Array Oper} {rest:List Oper} {o:Oper} {a:Act} {Q:Exit->Act->World->Prop}
end
namespace Kd
section
variable {α:Type} {enc:α->Value} {h1 : ∀x,(enc x).oneCell'=true} {e base g n cap:Nat} {ok:Nat->Prop} {W:World} {xs:List α}
end
end Kd
section
variable {P:Program} {ops:Array Oper} {rest:List Oper} {o:Oper} {a:Act} {Q:Exit->Act->World->Prop}
end
namespace Kd
section
variable {α:Type} {enc:α->Value} {h1 : ∀x,(enc x).oneCell'=true} {e base g n cap:Nat} {ok:Nat->Prop} {W:World} {xs:List α}
end
end Kd
section
variable {P:Program} {ops:Array Oper} {rest:List Oper} {o:Oper} {a:Act} {Q:Exit->Act->World->Prop} {W:World}
theorem mH {N:Tmp} (_hN:o.dst=some N) (h:wpList P ops Q (o::rest) a W):wpList P ops Q (o::rest) a W:=h
end
section
variable {P:Program} {ops:Array Oper} {o:Oper} {a:Act} {Q:Exit->Act->World->Prop} {Kc:Act->World->Prop}
namespace Kd
variable {α:Type}
end Kd
end
section
variable {P:Program} {tmps:Array Value} {w:World}
end
namespace Kd
section
variable {P:Program} {α:Type}
end
section
variable {P:Program} {ops:Array Oper} {rest:List Oper} {o:Oper} {a:Act} {Q:Exit->Act->World->Prop} {Kc:Act->World->Prop} {α:Type}
end
end Kd
end Go.Proofs.YtjocbnjpjihpnaaGreatW.AD
end
section
namespace Go.Proofs.YtjocbnjpjihpnaaGreatW.AR
section
section
variable {P:Program} {ops:Array Oper} {Q:Exit->Act->World->Prop} {md:Region.Mode} {S:World->Prop} {ds:List Nat}
def Region.KN (md:Region.Mode) (ops:Array Oper) (i:Nat):Nat->Nat->Bool
 | 0,_=>false
 | fuel+1,d=>match ops[d]? with
   | some o=>o.after.any λe=>Region.binds md e&&(e.on==i || Region.KN md ops i fuel e.on)
   | none=>false
def Region.UX (md:Region.Mode) (ops:Array Oper) (listed:Array Bool):Bool :=
 (List.range ops.size).all λj=> !listed.getD j false || match ops[j]? with
   | some o=>o.after.all λe=> !Region.binds md e || listed.getD e.on false
   | none=>true
def Region.uC (md:Region.Mode) (ops:Array Oper) (listed:Array Bool) (ds:List Nat) (i:Nat):Bool :=
 ds.all λd=>listed.getD d true || Region.KN md ops i ops.size d
def Fy (md:Region.Mode) (ops:Array Oper) (listed:Array Bool):Prop :=
 ∀j oj,ops[j]? =some oj->listed.getD j false=true-> ∀e∈oj.after,Region.binds md e=true->listed.getD e.on false=true
theorem Region.hO {listed:Array Bool} (h:Region.UX md ops listed=true):Fy md ops listed:=by
 intro j oj hj hl e he hb;have hlt:j<ops.size:=(AOF.1 hj).1;have h1:=ANy.1 h j (AOU.2 hlt);simp only[hl,hj,Bool.not_true,Bool.false_or] at h1;have h2:=Array.all_eq_true_iff_forall_mem.1 h1 e he;simpa[hb] using h2
theorem Fy.set {listed:Array Bool} {i:Nat} (h:Fy md ops listed) (hi:i∈Region.ready md ops listed):Fy md ops (listed.setIfInBounds i true):=by
 obtain⟨_,oi,hoi,hall⟩:=mem_ready.1 hi;intro j oj hj hl e he hb;by_cases hij:i=j
 · subst hij
   have:oj=oi:=APN (hj.symm.trans hoi);subst this;exact getD_set_true (hall e he hb)
 · rw[getD_set_ne false hij] at hl
   exact getD_set_true (h j oj hj hl e he hb)
theorem Region.UY {listed:Array Bool} {i:Nat} (hc:Fy md ops listed) : ∀(fuel d:Nat),Region.KN md ops i fuel d=true->listed.getD d false=true->listed.getD i false=true
 | 0,_,h,_=>by simp[Region.KN] at h
 | fuel+1,d,h,hl=>by
   unfold Region.KN at h;cases ho:ops[d]? with
   | none=>rw[ho] at h;simp at h
   | some o =>
     rw[ho] at h;obtain⟨e,he,h1⟩:=Array.any_eq_true'.1 h;simp only[ANQ,AOi,beq_iff_eq] at h1;have hle:=hc d o ho hl e he h1.1;rcases h1.2 with h2 | h2
     · rw[<-h2];exact hle
     · exact Region.UY hc fuel e.on h2 hle
theorem Region.Yc {listed:Array Bool} {i d fuel:Nat} (hc:Fy md ops listed) (hr:Region.KN md ops i fuel d=true) (hun:listed.getD i true=false):d ∉ Region.ready md ops listed:=by
 intro hd;obtain⟨_,o,ho,hall⟩:=mem_ready.1 hd;have hi:listed.getD i false=true:=by
  cases fuel with
  | zero=>simp[Region.KN] at hr
  | succ n =>
    unfold Region.KN at hr;rw[ho] at hr;obtain⟨e,he,h1⟩:=Array.any_eq_true'.1 hr;simp only[ANQ,AOi,beq_iff_eq] at h1;have hle:=hall e he h1.1;rcases h1.2 with h2 | h2
    · rw[<-h2];exact hle
    · exact Region.UY hc n e.on h2 hle
 rcases ANs i listed.size with h' | h'
 · simp[h'] at hun hi
   rw[hun] at hi;cases hi
 · simp[APk h'] at hun
def Ak (P:Program) (md:Region.Mode) (ops:Array Oper) (Q:Exit->Act->World->Prop) (S:World->Prop) (ds:List Nat):Nat->Array Bool->Act->World->Prop
 | 0,listed,a,w=>Region.ready md ops listed= []/\Q .normal a w
 | fuel+1,listed,a,w =>
   (Region.ready md ops listed= []->Q .normal a w) /\
   ∀i∈Region.ready md ops listed,wpOp P ops Q i (λa' w'=>(i ∉ ds->S w->S w')/\Ak P md ops Q S ds fuel (listed.setIfInBounds i true) a' w') a w
theorem Yd {i:Nat} {oi:Oper} {v:Value} (hi:ops[i]? =some oi) (hsel : ∀(j:Nat) (o:Oper) cs b,ops[j]? =some o->o.op≠ .select cs b)
 (hQ : ∀c a w,Q (.panic c) (a.put oi.dst v) w->Q (.panic c) a w) (n:Nat) :
 ∀(fuel:Nat) (listed:Array Bool) (a:Act) (w:World),
  (∀j oj,ops[j]? =some oj->j≠i->listed.getD j true=false->(∀e∈oj.after,Region.binds md e=true->e.on≠i)->oi.apart ops oj=true) ->
  Fy md ops listed->(∀d∈ds,listed.getD d true=false->Region.KN md ops i n d=true) ->
  i∈Region.ready md ops listed->YieldsIf P ops S oi v a->S w ->
  Ak P md ops Q S ds fuel (listed.setIfInBounds i true) (a.put oi.dst v) w->Ak P md ops Q S ds (fuel+1) listed a w:=by
 intro fuel;induction fuel with
 | zero =>
   intro listed a w _ _ _ hr hy hS H;refine⟨λh=>(by rw[h] at hr;cases hr),λj hj=> ?_⟩;by_cases hji:j=i
   · subst hji;exact hy.wpOp hi hS ⟨λ_ h=>h,H⟩
   · have:=ready_mono hj hji
     rw[H.1] at this;cases this
 | succ fuel ih =>
   intro listed a w hfree hc hd hr hy hS H;refine⟨λh=>(by rw[h] at hr;cases hr),λj hj=> ?_⟩;by_cases hji:j=i
   · subst hji;exact hy.wpOp hi hS ⟨λ_ h=>h,H⟩
   · have h1:=H.2 j (ready_mono hj hji)
     obtain⟨ql,oj,hoj,hall⟩:=mem_ready.1 hj;have vq:=(mem_ready.1 hr).1;have hnot : ∀e∈oj.after,Region.binds md e=true->e.on≠i:=λe he hb heq=>by
      have h1:=hall e he hb;rw[heq] at h1;rcases ANs i listed.size with h' | h'
      · simp[h'] at vq h1;rw[vq] at h1;cases h1
      · simp[APk h'] at h1
     have hjd:j ∉ ds:=λhm=>Region.Yc hc (hd j hm ql) vq hj
     have h2:=wpOp_putIf hoj (hfree j oj hoj hji ql hnot) (λcs b=>hsel i oi cs b hi) (λcs b=>hsel j oj cs b hoj) hQ hy h1;have qm : ∀k ok,ops[k]? =some ok->k≠i->(listed.setIfInBounds j true).getD k true=false ->
      (∀e∈ok.after,Region.binds md e=true->e.on≠i)->oi.apart ops ok=true:=λk ok hk hki hun hno=>by
      refine hfree k ok hk hki ?_ hno;by_cases hjk:j=k
      · subst hjk;exact ql
      · rw[getD_set_ne true hjk] at hun;exact hun
     have hd' : ∀d∈ds,(listed.setIfInBounds j true).getD d true=false->Region.KN md ops i n d=true:=λd hm hun=>by
      refine hd d hm ?_;by_cases hjk:j=d
      · subst hjk;exact ql
      · rw[getD_set_ne true hjk] at hun;exact hun
     refine wpOp_mono (λa' w' h3=>⟨h3.2.1,ih (listed.setIfInBounds j true) a' w' qm (hc.set hj) hd' (ready_mono hr (AQN hji)) h3.1 (h3.2.1 hjd hS) ?_⟩) h2;rw[AQT _ _ hji];exact h3.2.2
theorem dN {i:Nat} {oi:Oper} {v:Value} (hi:ops[i]? =some oi) (hsel : ∀(j:Nat) (o:Oper) cs b,ops[j]? =some o->o.op≠ .select cs b)
 (hQ : ∀c a w,Q (.panic c) (a.put oi.dst v) w->Q (.panic c) a w) :
 ∀(fuel:Nat) (listed:Array Bool) (a:Act) (w:World),
  (∀j oj,ops[j]? =some oj->j≠i->listed.getD j true=false->(∀e∈oj.after,Region.binds md e=true->e.on≠i)->oi.apart ops oj=true) ->
  i∈Region.ready md ops listed->Yields P ops oi v a ->
  Ak P md ops Q S ds fuel (listed.setIfInBounds i true) (a.put oi.dst v) w->Ak P md ops Q S ds (fuel+1) listed a w:=by
 intro fuel;induction fuel with
 | zero =>
   intro listed a w _ hr hy H;refine⟨λh=>(by rw[h] at hr;cases hr),λj hj=> ?_⟩;by_cases hji:j=i
   · subst hji;exact(hy.yieldsIf (S:=λ_=>True)).wpOp hi trivial ⟨λ_ h=>h,H⟩
   · have:=ready_mono hj hji
     rw[H.1] at this;cases this
 | succ fuel ih =>
   intro listed a w hfree hr hy H;refine⟨λh=>(by rw[h] at hr;cases hr),λj hj=> ?_⟩;by_cases hji:j=i
   · subst hji;exact(hy.yieldsIf (S:=λ_=>True)).wpOp hi trivial ⟨λ_ h=>h,H⟩
   · have h1:=H.2 j (ready_mono hj hji)
     obtain⟨ql,oj,hoj,hall⟩:=mem_ready.1 hj;have vq:=(mem_ready.1 hr).1;have hnot : ∀e∈oj.after,Region.binds md e=true->e.on≠i:=λe he hb heq=>by
      have h1:=hall e he hb;rw[heq] at h1;rcases ANs i listed.size with h' | h'
      · simp[h'] at vq h1;rw[vq] at h1;cases h1
      · simp[APk h'] at h1
     have h2:=wpOp_put hoj (hfree j oj hoj hji ql hnot) (λcs b=>hsel i oi cs b hi) (λcs b=>hsel j oj cs b hoj) hQ hy h1;have qm : ∀k ok,ops[k]? =some ok->k≠i->(listed.setIfInBounds j true).getD k true=false ->
      (∀e∈ok.after,Region.binds md e=true->e.on≠i)->oi.apart ops ok=true:=λk ok hk hki hun hno=>by
      refine hfree k ok hk hki ?_ hno;by_cases hjk:j=k
      · subst hjk;exact ql
      · rw[getD_set_ne true hjk] at hun;exact hun
     refine wpOp_mono (λa' w' h3=>⟨h3.2.1,ih (listed.setIfInBounds j true) a' w' qm (ready_mono hr (AQN hji)) h3.1 ?_⟩) h2;rw[AQT _ _ hji];exact h3.2.2
theorem Zb {i:Nat} {oi:Oper} {v:Value} {fuel:Nat} {listed:Array Bool} {a:Act} {w:World} (hi:ops[i]? =some oi)
 (hs:Region.noSelect ops=true) (hf:Region.free md ops listed i=true) (hr:(Region.ready md ops listed).contains i=true)
 (hc:Region.UX md ops listed=true) (hl:Region.uC md ops listed ds i=true)
 (hQ : ∀c a w,Q (.panic c) (a.put oi.dst v) w->Q (.panic c) a w) (hy:YieldsIf P ops S oi v a) (hS:S w)
 (h:Ak P md ops Q S ds fuel (listed.setIfInBounds i true) (a.put oi.dst v) w):Ak P md ops Q S ds (fuel+1) listed a w :=
 Yd hi (Region.noSelect_spec hs) hQ ops.size fuel listed a w (Region.free_spec hi hf) (Region.hO hc)
  (λd hm hun=>by have:=ANy.1 hl d hm;rw[hun] at this;simpa using this) (by simpa using hr) hy hS h
theorem dO {rs:List Nat} {fuel:Nat} {listed:Array Bool} {a:Act} {w:World} (hr:Region.ready md ops listed=rs) (hne:rs≠ [])
 (h : ∀i∈rs,wpOp P ops Q i (λa' w'=>(i ∉ ds->S w->S w')/\Ak P md ops Q S ds fuel (listed.setIfInBounds i true) a' w') a w):Ak P md ops Q S ds (fuel+1) listed a w :=
 ⟨λh0=>absurd (hr▸h0) hne,hr▸h⟩
end
section
variable {P:Program} {ops:Array Oper} {Q:Exit->Act->World->Prop} {md:Region.Mode} {S:World->Prop} {ds:List Nat}
def DW (P:Program) (md:Region.Mode) (ops:Array Oper) (Q:Exit->Act->World->Prop) (S:World->Prop) (ds:List Nat) (fuel:Nat) (listed:Array Bool) (a:Act) (w:World) (rs:List Nat):Prop :=
 ∀i∈rs,wpOp P ops Q i (λa' w'=>(i ∉ ds->S w->S w')/\Ak P md ops Q S ds fuel (listed.setIfInBounds i true) a' w') a w
theorem DW.nil {fuel:Nat} {listed:Array Bool} {a:Act} {w:World} :DW P md ops Q S ds fuel listed a w []:=λ_ h=>by cases h
theorem DW.cons {fuel:Nat} {listed:Array Bool} {a:Act} {w:World} {i:Nat} {o:Oper} {rs:List Nat} (ho:ops[i]? =some o) (hd:i ∉ ds)
 (h : ∀K':Act->World->Prop,Shut (∀a w,S w->(S w->Ak P md ops Q S ds fuel (listed.setIfInBounds i true) a w)->K' a w)->if Region.wanted o (yielded ops a.tmps)=true then Oper.wp P o a w K' Q else K' (a.put o.dst undef) w)
 (hs:DW P md ops Q S ds fuel listed a w rs):DW P md ops Q S ds fuel listed a w (i::rs):=λj hj=>by
 rcases ANM.1 hj with rfl | hj
 · exact wpOp_step ho (λK' hK=>h K' (λa w hS hW=>hK a w ⟨λ_ _=>hS,hW hS⟩))
 · exact hs j hj
theorem KO {rs:List Nat} {fuel:Nat} {listed:Array Bool} {a:Act} {w:World} (hr:Region.ready md ops listed=rs) (hne:rs≠ [])
 (h:DW P md ops Q S ds fuel listed a w rs):Ak P md ops Q S ds (fuel+1) listed a w:=dO hr hne h
def mI (md:Region.Mode) (ops:Array Oper) (ds:List Nat) (l l':Array Bool) (i:Nat):Bool :=
 Region.noSelect ops&&Region.free md ops l i&&(Region.ready md ops l).contains i&&Region.UX md ops l&&Region.uC md ops l ds i&&(l.setIfInBounds i true==l')
theorem tu {i:Nat} {N:Option Tmp} {oi:Oper} {v:Value} {fuel:Nat} {l:Array Bool} {a:Act} {w:World} (l':Array Bool) (hi:ops[i]? =some oi) (hN:oi.dst=N) (hc:mI md ops ds l l' i=true)
 (hQ : ∀c a w,Q (.panic c) (a.put oi.dst v) w->Q (.panic c) a w) (hy:YieldsIf P ops S oi v a) (hS:S w) {a':Act} (ha:a.put N v=a')
 (h:Ak P md ops Q S ds fuel l' a' w):Ak P md ops Q S ds (fuel+1) l a w:=by
 subst ha;subst hN;simp only[mI,ANQ,beq_iff_eq] at hc;obtain⟨⟨⟨⟨⟨h1,h2⟩,h3⟩,h4⟩,h5⟩,h6⟩:=hc;subst h6;exact Zb hi h1 h2 h3 h4 h5 hQ hy hS h
def AB1 (md:Region.Mode) (ops:Array Oper) (l l':Array Bool) (i:Nat):Bool :=
 Region.noSelect ops&&Region.free md ops l i&&(Region.ready md ops l).contains i&&(l.setIfInBounds i true==l')
theorem AGC {i:Nat} {N:Option Tmp} {oi:Oper} {v:Value} {fuel:Nat} {l:Array Bool} {a:Act} {w:World} (l':Array Bool) (hi:ops[i]? =some oi) (hN:oi.dst=N) (hc:AB1 md ops l l' i=true)
 (hQ : ∀c a w,Q (.panic c) (a.put oi.dst v) w->Q (.panic c) a w) (hy:Yields P ops oi v a) {a':Act} (ha:a.put N v=a')
 (h:Ak P md ops Q S ds fuel l' a' w):Ak P md ops Q S ds (fuel+1) l a w:=by
 subst ha;subst hN;simp only[AB1,ANQ,beq_iff_eq] at hc;obtain⟨⟨⟨h1,h2⟩,h3⟩,h6⟩:=hc;subst h6;exact dN hi (Region.noSelect_spec h1) hQ fuel l a w (Region.free_spec hi h2) (by simpa using h3) hy h
def iA (md:Region.Mode) (ops:Array Oper) (l l':Array Bool) (i:Nat):Bool:=(Region.ready md ops l== [i])&&(l.setIfInBounds i true==l')
theorem AJG {i:Nat} {N:Option Tmp} {oi:Oper} {fuel:Nat} {l:Array Bool} {a:Act} {w:World} (l':Array Bool) (hi:ops[i]? =some oi) (hN:oi.dst=N) (hc:iA md ops l l' i=true) (hd:i ∉ ds)
 (h : ∀K:Act->World->Prop,Shut (∀a' w',S w'->(S w'->Ak P md ops Q S ds fuel l' a' w')->K a' w')->if Region.wanted oi (yielded ops a.tmps)=true then Oper.wp P oi a w K Q else K (a.put N undef) w) :
 Ak P md ops Q S ds (fuel+1) l a w:=by
 subst hN;simp only[iA,ANQ,beq_iff_eq] at hc;obtain⟨h1,h2⟩:=hc;subst h2;exact KO h1 (by simp) (DW.cons hi hd (λK hK=>h K hK) DW.nil)
theorem AMl {i j:Nat} {Ni Nj:Option Tmp} {oi oj:Oper} {fuel:Nat} {l:Array Bool} {a:Act} {w:World} (li lj:Array Bool) (hi:ops[i]? =some oi) (hj:ops[j]? =some oj) (hNi:oi.dst=Ni) (hNj:oj.dst=Nj)
 (hc:(Region.ready md ops l== [i,j]&&l.setIfInBounds i true==li&&l.setIfInBounds j true==lj)=true) (hdi:i ∉ ds) (hdj:j ∉ ds)
 (h1 : ∀K:Act->World->Prop,Shut (∀a' w',S w'->(S w'->Ak P md ops Q S ds fuel li a' w')->K a' w')->if Region.wanted oi (yielded ops a.tmps)=true then Oper.wp P oi a w K Q else K (a.put Ni undef) w)
 (h2 : ∀K:Act->World->Prop,Shut (∀a' w',S w'->(S w'->Ak P md ops Q S ds fuel lj a' w')->K a' w')->if Region.wanted oj (yielded ops a.tmps)=true then Oper.wp P oj a w K Q else K (a.put Nj undef) w) :
 Ak P md ops Q S ds (fuel+1) l a w:=by
 subst hNi;subst hNj;simp only[ANQ,beq_iff_eq] at hc;obtain⟨⟨h3,h4⟩,h5⟩:=hc;subst h4;subst h5;exact KO h3 (by simp) (DW.cons hi hdi (λK hK=>h1 K hK) (DW.cons hj hdj (λK hK=>h2 K hK) DW.nil))
theorem AJH {i j k:Nat} {Ni Nj Nk:Option Tmp} {oi oj ok:Oper} {fuel:Nat} {l:Array Bool} {a:Act} {w:World} (li lj lk:Array Bool) (hi:ops[i]? =some oi) (hj:ops[j]? =some oj) (hk:ops[k]? =some ok) (hNi:oi.dst=Ni) (hNj:oj.dst=Nj) (hNk:ok.dst=Nk)
 (hc:(Region.ready md ops l== [i,j,k]&&l.setIfInBounds i true==li&&l.setIfInBounds j true==lj&&l.setIfInBounds k true==lk)=true) (hdi:i ∉ ds) (hdj:j ∉ ds) (hdk:k ∉ ds)
 (h1 : ∀K:Act->World->Prop,Shut (∀a' w',S w'->(S w'->Ak P md ops Q S ds fuel li a' w')->K a' w')->if Region.wanted oi (yielded ops a.tmps)=true then Oper.wp P oi a w K Q else K (a.put Ni undef) w)
 (h2 : ∀K:Act->World->Prop,Shut (∀a' w',S w'->(S w'->Ak P md ops Q S ds fuel lj a' w')->K a' w')->if Region.wanted oj (yielded ops a.tmps)=true then Oper.wp P oj a w K Q else K (a.put Nj undef) w)
 (h3 : ∀K:Act->World->Prop,Shut (∀a' w',S w'->(S w'->Ak P md ops Q S ds fuel lk a' w')->K a' w')->if Region.wanted ok (yielded ops a.tmps)=true then Oper.wp P ok a w K Q else K (a.put Nk undef) w) :
 Ak P md ops Q S ds (fuel+1) l a w:=by
 subst hNi;subst hNj;subst hNk;simp only[ANQ,beq_iff_eq] at hc;obtain⟨⟨⟨h4,h5⟩,h6⟩,h7⟩:=hc;subst h5;subst h6;subst h7;exact KO h4 (by simp) (DW.cons hi hdi (λK hK=>h1 K hK) (DW.cons hj hdj (λK hK=>h2 K hK) (DW.cons hk hdk (λK hK=>h3 K hK) DW.nil)))
def qp:Act->List (Tmp × Value)->Act
 | a,[]=>a
 | a,(n,v)::r=>qp (a.put (some n) v) r
theorem AMT {σ:Type} {fuel:Nat} {l:Array Bool} {a:Act} {w:World} (fuel':Nat) (l':Array Bool) (ns:σ->List (Tmp × Value)) (F:σ->World->Prop)
 (AGD : ∀s w',F s w'->Ak P md ops Q S ds fuel' l' (qp a (ns s)) w')
 (h:(∀s w',F s w'->Ak P md ops Q S ds fuel' l' (qp a (ns s)) w')->Ak P md ops Q S ds fuel l a w):Ak P md ops Q S ds fuel l a w:=h AGD
theorem AGE {fuel:Nat} {l:Array Bool} {a a':Act} {w:World} (ha:a=a') (h:Ak P md ops Q S ds fuel l a' w):Ak P md ops Q S ds fuel l a w:=by
 subst ha;exact h
theorem uD {f : FuncId} {fn : Func} (hf : P.funcs[f]? = some fn) (hname : (fn.name == "runtime.NumGoroutine") = false) (hb : fn.body.isSome = true) (args : Array Value) (w : World) : (callFunc f args).run P w = .ok (.enter f args) w := by
 have h1 : fn.name ≠ "runtime.NumGoroutine" := by simpa using hname
 obtain⟨c,hc⟩:=Option.isSome_iff_exists.1 hb;simp[callFunc,hf,h1,hc]
theorem yV {rest : List Oper} {oi : Oper} {a : Act} {w : World} (N : Option Tmp) (hd : oi.dst = N) (hg : oi.guard = none) {f : FuncId} {fn : Func} {as : Array Operand} {ts : Array TypeId} (hf : P.funcs[f]? = some fn) (hname : (fn.name == "runtime.NumGoroutine") = false) (hb : fn.body.isSome = true) (args : Array Value)
 (hop:oi.op= .call {callee:= .value (.func f),args:=as,argTypes:=ts}) (hargs:as.map a.eval=args)
 (h:Calls P f args w λe w'=> ∃v,e= .returned v/\wpList P ops Q rest (a.put N v) w'):wpList P ops Q (oi::rest) a w:=by
 refine wpList_plain hg λK hK=> ?_
 have he:=uD hf hname hb args w;have hrun:(execOp a.eval oi).run P w= .ok (.enter f args) w:=by
  unfold execOp;simp[hop,resolve,Deferred.ofValue,invoke,Act.eval,hargs,he]
 unfold Oper.wp;rw[hrun,Oper.upon_enter];refine h.mono λe w'' hh=> ?_
 obtain⟨v,rfl,hk⟩:=hh;subst hd;exact hK _ _ hk
theorem mJ (n:Int):IntKind.i64.wrap n=Go.RowKit.wrap64 n:=by unfold Go.RowKit.wrap64;exact IntKind.wrap_i64 n
theorem yW (n:Int):IntKind.i32.wrap n=Go.RowKit.wrap32 n:=by unfold Go.RowKit.wrap32;exact IntKind.wrap_i32 n
end
end
end Go.Proofs.YtjocbnjpjihpnaaGreatW.AR
end
section
namespace Go.Proofs.YtjocbnjpjihpnaaGreatW.AD
open Go.RowKit
namespace Kd
def tag {α:Type} (f:Nat->Nat) (d:Kd α):Kd (α × Nat) where
 sz:=d.sz
 E:=d.E
 K:=λw x cs=>d.K w x.1 cs
 M:=λw base ok x cs=>d.M w base (λk=>ok k/\f k=x.2) x.1 cs
 Dr:=λh=>d.Dr h
 Gc:=λh=>d.Gc h
 Ds:=λhb h=>d.Ds hb h
 Dz:=λh=>d.Dz h
 Cf:=λhok h=>d.Cf (λk hk=>⟨hok k hk.1,hk.2⟩) h
 C8:=λh=>d.Cf (λ_ hk=>⟨⟨hk.1.1,hk.2⟩,hk.1.2⟩) (d.C8 h)
 D0:=λhm h=>d.D0 (λk hk=>hm k hk.1) h
 Dt:=λhb h=>d.Dt hb h
def bare {α:Type} (d:Kd α):Kd α where
 sz:=d.sz
 E:=d.E
 K:=d.K
 M:=λw base _ x cs=>d.M w base (λ_=>False) x cs
 Dr:=λh=>d.Dr h
 Gc:=λh=>d.Gc h
 Ds:=λhb h=>d.Ds hb h
 Dz:=λh=>d.Dz h
 Cf:=λ_ h=>h
 C8:=λh=>h
 D0:=λ_ h=>d.D0 (λ_ hk=>hk.elim) h
 Dt:=λhb h=>d.Dt hb h
def raw (sz:Nat):Kd (List Value) where
 sz:=sz
 E:= []
 K:=λ_ x cs=>cs=x/\cs.length=sz/\ ∀u∈cs,u.oneCell'=true
 M:=λ_ _ _ x cs=>cs=x/\cs.length=sz/\ ∀u∈cs,u.oneCell'=true
 Dr:=λh=>h.2.1
 Gc:=λh=>h.2.2
 Ds:=λ_ h=>h
 Dz:=λh=>h
 Cf:=λ_ h=>h
 C8:=λh=>h
 D0:=λ_ h=>h
 Dt:=λ_ h=>h
def S {α:Type} (d:Kd α) (e:Nat) (w:World) (base:Nat) (ok:Nat->Prop) (v:Value) (xs:List α):Prop:= ∃f,(tag f d).R e w base ok v xs.zipIdx
section
variable {α β:Type} {d:Kd α} {d':Kd β} {e e':Nat} {w w1 W:World} {base b:Nat} {ok ok' okv oku:Nat->Prop} {u v:Value} {xs:List α} {ys:List β}
end
section
variable {α β:Type} {d:Kd α} {d':Kd β} {e e' g:Nat} {w w1 W:World} {base b:Nat} {ok ok' okv oku:Nat->Prop} {u v:Value} {xs:List α} {ys:List β}
end
section
open Classical in
variable {P:Program} {ops:Array Oper} {rest:List Oper} {o:Oper} {a:Act} {Q:Exit->Act->World->Prop} {Kc:Act->World->Prop} {α:Type}
end
def gap {α:Type} (f:Nat->Nat) (d:Kd α) (i:Nat) (c:List Value):Kd (α × Nat) where
 sz:=d.sz
 E:=d.E
 K:=λw x cs=>(x.2=i->cs=c/\cs.length=d.sz/\ ∀u∈cs,u.oneCell'=true)/\(x.2≠i->d.K w x.1 cs)
 M:=λw base ok x cs=>(x.2=i->cs=c/\cs.length=d.sz/\ ∀u∈cs,u.oneCell'=true)/\(x.2≠i->d.M w base (λk=>ok k/\f k=x.2) x.1 cs)
 Dr:=λ{w x cs} h=>by
  by_cases hx:x.2=i
  · exact(h.1 hx).2.1
  · exact d.Dr (h.2 hx)
 Gc:=λ{w x cs} h=>by
  by_cases hx:x.2=i
  · exact(h.1 hx).2.2
  · exact d.Gc (h.2 hx)
 Ds:=λhb h=>⟨h.1,λhx=>d.Ds hb (h.2 hx)⟩
 Dz:=λh=>⟨h.1,λhx=>d.Dz (h.2 hx)⟩
 Cf:=λhok h=>⟨h.1,λhx=>d.Cf (λk hk=>⟨hok k hk.1,hk.2⟩) (h.2 hx)⟩
 C8:=λh=>⟨h.1,λhx=>d.Cf (λ_ hk=>⟨⟨hk.1.1,hk.2⟩,hk.1.2⟩) (d.C8 (h.2 hx))⟩
 D0:=λhm h=>⟨h.1,λhx=>d.D0 (λk hk=>hm k hk.1) (h.2 hx)⟩
 Dt:=λhb h=>⟨h.1,λhx=>d.Dt hb (h.2 hx)⟩
def H {α:Type} (d:Kd α) (e:Nat) (w:World) (base:Nat) (ok:Nat->Prop) (v:Value) (xs:List α) (i:Int) (oki:Nat->Prop) (c:List Value):Prop :=
 (∀k,oki k->ok k)/\ ∃f,(gap f d i.toNat c).R e w base (λk=>ok k/\ ¬oki k) v xs.zipIdx
section
variable {α β:Type} {d:Kd α} {e e' g n cap:Nat} {w w1 W:World} {base:Nat} {ok ok' oki TZ:Nat->Prop} {u v:Value} {xs:List α} {i:Int} {c:List Value}
open Classical in
end
section
variable {P:Program} {ops:Array Oper} {rest:List Oper} {o:Oper} {a:Act} {Q:Exit->Act->World->Prop} {α:Type}
end
end Kd
end Go.Proofs.YtjocbnjpjihpnaaGreatW.AD
end
section
namespace Go.Proofs.YtjocbnjpjihpnaaGreatW.AD
open Go.RowKit
namespace Kd
theorem yX {α:Type} {R:α->List Value->Prop} {size:Nat} {ps:List α} {cs:List Value} (h:Bn R size ps cs) (hs0:0<size) (hR : ∀p c,R p c-> ∀u∈c,u.oneCell'=true) : ∀u∈cs,u.oneCell'=true:=by
 intro u hu;obtain⟨q,hq,rfl⟩:=AP2.1 hu;have yA:q/size<ps.length:=by
  rw[APt hs0,<-h.1];exact hq
 refine hR _ _ (h.2 (q/size) _ (ANX yA)) _ ?_;rw[APu];refine⟨q%size, ?_⟩;rw[ANg,if_pos (Nat.mod_lt _ hs0),ANj,APB,AQf,ANX hq]
theorem mK {α:Type} {R:α->List Value->Prop} {size:Nat} {ps:List α} {cs:List Value} (h:Bn R size ps cs) {i:Nat} (hi:i<ps.length) {x:α} {seg:List Value} (hx:R x seg) (hl:seg.length=size):Bn R size (ps.set i x) (cs.take (i*size)++seg++cs.drop (i*size+seg.length)):=by
 have hfit:i*size+size<=cs.length:=by rw[h.1,<-AN9];exact ANV _ hi
 refine⟨?_,λm p hm=> ?_⟩
 · rw[AN3,<-h.1]
   simp only[ANT,ANO,ANo];omega
 · have hml:m<ps.length:=by
    have:=(ANN.1 hm).1
    rwa [AN3] at this
   by_cases yB:m=i
   · subst yB
     rw[AN2 hml] at hm;injection hm with hm;subst hm;rw[show((cs.take (m*size)++seg++cs.drop (m*size+seg.length)).drop (m*size)).take size=seg by
      rw[AOJ,List.drop_left' (by rw[ANO];omega),List.take_left' hl]]
     exact hx
   · rw[ANf (AQN yB)] at hm
     have hmf:m*size+size<=cs.length:=(by rw[h.1,<-AN9];exact ANV _ hml);rw[show((cs.take (i*size)++seg++cs.drop (i*size+seg.length)).drop (m*size)).take size=(cs.drop (m*size)).take size from by
      apply AOP;intro q;rw[ANg,ANg,ANj,ANj,RY cs seg _ (by omega)];by_cases hq:q<size
      · rw[if_pos hq,if_pos hq]
        rcases Nat.lt_or_gt_of_ne yB with hlt | hgt
        · have:m*size+size<=i*size:=by rw[<-AN9];exact ANV _ hlt
          rw[if_pos (by omega)]
        · have:i*size+size<=m*size:=by rw[<-AN9];exact ANV _ hgt
          rw[if_neg (by omega),if_neg (by omega)]
      · rw[if_neg hq,if_neg hq]]
     exact h.2 m p hm
def arr {α:Type} (n:Nat) (d:Kd α) (hs:0<d.sz):Kd (List α) where
 sz:=n*d.sz
 E:=d.E
 K:=λw xs cs=>xs.length=n/\Bn (d.K w) d.sz xs cs
 M:=λw base ok xs cs=>xs.length=n/\Bn (d.M w base ok) d.sz xs cs
 Dr:=λh=>by rw[<-h.1];exact h.2.1
 Gc:=λh=>yX h.2 hs (λ_ _ hk=>d.Gc hk)
 Ds:=λhb h=>⟨h.1,h.2.Gh (λ_ _ hk=>d.Ds hb hk)⟩
 Dz:=λh=>⟨h.1,h.2.Gh (λ_ _ hk=>d.Dz hk)⟩
 Cf:=λhok h=>⟨h.1,h.2.Gh (λ_ _ hk=>d.Cf hok hk)⟩
 C8:=λh=>⟨h.1,h.2.Gh (λ_ _ hk=>d.C8 hk)⟩
 D0:=λhm h=>⟨h.1,h.2.Gh (λ_ _ hk=>d.D0 hm hk)⟩
 Dt:=λhb h=>⟨h.1,h.2.Gh (λ_ _ hk=>d.Dt hb hk)⟩
section
variable {α:Type} {n:Nat} {d:Kd α} {hs:0<d.sz} {w:World} {base:Nat} {ok:Nat->Prop} {xs:List α} {cs:List Value}
end
section
variable {α:Type} {n:Nat} {enc:α->Value} {h1 : ∀x,(enc x).oneCell'=true} {hs:0<(scalar enc h1).sz} {w:World} {base:Nat} {ok:Nat->Prop} {xs:List α} {cs:List Value}
end
end Kd
end Go.Proofs.YtjocbnjpjihpnaaGreatW.AD
end
section
namespace Go.Proofs.YtjocbnjpjihpnaaGreatW.AD
open Go.RowKit
namespace Kd
structure Heap {α:Type} (d:Kd α):Prop where
 K : ∀ {w w1:World} {x:α} {cs:List Value},(∀k,k<w.heap.size->w1.heap[k]? =w.heap[k]?)->d.K w x cs->d.K w1 x cs
theorem vr {w w1:World} (hb : ∀k,k<w.heap.size->w1.heap[k]? =w.heap[k]?) {a:Addr} {v:Value} (h:w.cell? a=some v):w1.cell? a=some v:=by
 have:=hb a.block (World.block_lt_of_cell? w a h);simpa[World.cell?,this] using h
theorem Heap.C {α:Type} {d:Kd α} (hd:Heap d) {w w1:World} {A:Option Addr} {n:Nat} {xs:List α} (hb : ∀k,k<w.heap.size->w1.heap[k]? =w.heap[k]?) (h:d.C w A n xs):d.C w1 A n xs :=
 ⟨h.1,h.2.1,λhn=>by
   obtain⟨ad,e,hc⟩:=h.2.2 hn;refine⟨ad,e,λj p hj=> ?_⟩;obtain⟨c,hs,hr,hcell⟩:=hc j p hj;exact⟨c,hs,hd.K hb hr,λi u hu=>vr hb (hcell i u hu)⟩⟩
section
variable {α:Type} {d:Kd α} {e base g n c:Nat} {ok:Nat->Prop} {w w0 W:World} {A:Option Addr} {xs:List α}
end
end Kd
end Go.Proofs.YtjocbnjpjihpnaaGreatW.AD
end
section
namespace Go.Proofs.YtjocbnjpjihpnaaGreatW.AD
open Go.RowKit
def Kept (w W:World) (S:Nat->Prop):Prop:=w.heap.size<=W.heap.size/\ ∀i,i<w.heap.size-> ¬S i->W.heap[i]? =w.heap[i]?
section
variable {w W W2:World} {S S2 S':Nat->Prop}
theorem Kept.refl (w:World) (S:Nat->Prop):Kept w w S:=⟨ANS _,λ_ _ _=>rfl⟩
theorem Kept.mD (h:Below w.heap.size w W) (S:Nat->Prop):Kept w W S:=⟨h.size,λi hi _=>h.block i hi⟩
theorem Kept.mono (h:Kept w W S) (hs : ∀k,S k->S' k):Kept w W S':=⟨h.1,λi hi hn=>h.2 i hi (λhk=>hn (hs i hk))⟩
theorem Kept.ADb (h:Kept w W S) (k:Kept W W2 S2) (hs : ∀k,S2 k->S k\/w.heap.size<=k):Kept w W2 S :=
 ⟨AN6 h.1 k.1,λi hi hn=>(k.2 i (AOB hi h.1) (λh2=>(hs i h2).elim hn (λh3=>by omega))).trans (h.2 i hi hn)⟩
theorem Kept.below (h:Kept w W S) (hb:Below W.heap.size W W2):Kept w W2 S:=h.ADb (Kept.mD hb (λ_=>False)) (λ_ hk=>hk.elim)
theorem Kept.alloc (h:Kept w W S) (o:Obj):Kept w (W.alloc o) S:=h.below (BG (Below.refl _ _) o)
theorem Kept.drew (h:Kept w W S):Kept w W.drew S:=h
theorem Kept.drewN (h:Kept w W S) (m:Nat):Kept w (W.drewN m) S:=h
theorem Kept.setCell (h:Kept w W S) {p:Addr} (hp:S p.block\/w.heap.size<=p.block) (u:Value):Kept w (W.setCell p u) S :=
 h.ADb (S2:=λk=>k=p.block) ⟨by simp[World.setCell],λi _ hn=>Below.heap_setCell W p u i hn⟩ (λk hk=>by rw[hk];exact hp)
theorem Kept.keep {g:Nat} (h:Ek w W g none) (k:Kept W W2 S2) (hs : ∀k,S2 k->w.heap.size<=k):Ek w W2 g none :=
 ⟨AN6 h.1 k.1,λi hi hg hr=>(k.2 i (AOB hi h.1) (λh2=>by have:=hs i h2;omega)).trans (h.2 i hi hg hr)⟩
end
namespace Kd
section
variable {α:Type} {d:Kd α} {e base n c:Nat} {ok oki S S2:Nat->Prop} {w w0 W W1 W2:World} {v:Value} {A:Option Addr} {xs:List α} {i:Int} {cs:List Value}
end
end Kd
end Go.Proofs.YtjocbnjpjihpnaaGreatW.AD
end
section
namespace Go.Proofs.YtjocbnjpjihpnaaGreatW.AD
open Go.RowKit
def Tb (P:World->Prop) (W:World) (ok:Nat->Prop):Prop:= ∀W':World,(∀k,ok k->k<W.heap.size->W'.heap[k]? =W.heap[k]?)->P W'
theorem AB2 {W W1:World} {k:Nat} (h:W1.heap[k]? =W.heap[k]?) (hlt:k<W.heap.size):k<W1.heap.size:=by
 rw[APX hlt] at h;exact(AOF.1 h).1
namespace Tb
variable {P Q:World->Prop} {W W1:World} {ok ok':Nat->Prop}
theorem now (h:Tb P W ok):P W:=h W (λ_ _ _=>rfl)
theorem mono (h:Tb P W ok) (hok : ∀k,ok k->ok' k):Tb P W ok':=λW' hW=>h W' (λk hk hlt=>hW k (hok k hk) hlt)
theorem bound (h:Tb P W ok):Tb P W (λk=>ok k/\k<W.heap.size):=λW' hW=>h W' (λk hk hlt=>hW k ⟨hk,hlt⟩ hlt)
theorem step (h:Tb P W ok) (hm : ∀k,ok k->k<W.heap.size->W1.heap[k]? =W.heap[k]?):Tb P W1 ok:=λW' hW=>h W' (λk hk hlt=>(hW k hk (AB2 (hm k hk hlt) hlt)).trans (hm k hk hlt))
theorem imp (h:Tb P W ok) (hi : ∀W',P W'->Q W'):Tb Q W ok:=λW' hW=>hi W' (h W' hW)
theorem old (h:Tb P W ok) (hb:Below W.heap.size W W1):Tb P W1 (λk=>ok k/\k<W.heap.size):=(h.bound).step (λk _ hlt=>hb.block k hlt)
end Tb
namespace Kd
def F {α:Type} (d:Kd α) (W:World) (ok:Nat->Prop) (A:Option Addr) (n:Nat) (xs:List α):Prop:=Tb (λW=>d.C W A n xs) W ok
def FK {α:Type} (d:Kd α) (W:World) (ok:Nat->Prop) (x:α) (c:List Value):Prop:=Tb (λW=>d.K W x c) W ok
section
variable {α β:Type} {d:Kd α} {e base n n' cc g N:Nat} {ok ok' TZ S:Nat->Prop} {w w0 w1 W W1:World} {A A':Option Addr} {u v v1:Value} {xs:List α} {xs':List β} {d':Kd β} {x:α} {c:List Value}
end
end Kd
end Go.Proofs.YtjocbnjpjihpnaaGreatW.AD
end
section
namespace Go.Proofs.YtjocbnjpjihpnaaGreatW.AD
open Go.RowKit
section
variable {P:Program}
end
namespace Kd
section
variable {P:Program} {ops:Array Oper} {rest:List Oper} {o:Oper} {a:Act} {Q:Exit->Act->World->Prop} {Kc:Act->World->Prop} {α:Type}
end
section
variable {α:Type} {d:Kd α} {e:Nat} {w:World} {base:Nat} {ok:Nat->Prop} {v:Value} {xs:List α}
end
section
variable {P:Program} {ops:Array Oper} {rest:List Oper} {o:Oper} {a:Act} {Q:Exit->Act->World->Prop} {Kc:Act->World->Prop} {α:Type}
end
end Kd
end Go.Proofs.YtjocbnjpjihpnaaGreatW.AD
end
section
namespace Go.Proofs.YtjocbnjpjihpnaaGreatW.AD
open Go.RowKit
namespace Kd
section
variable {α:Type} {d:Kd α} {e base n cc g:Nat} {ok ok' TZ S:Nat->Prop} {w w1 W W1:World} {A:Option Addr} {u v v1:Value} {xs:List α} {x:α} {c:List Value}
def N {α:Type} (d:Kd α) (e:Nat) (w:World) (base:Nat) (ok:Nat->Prop) (v:Value) (xs:List α):Prop :=
 (∀k,v.ownBlock=some k->ok k)/\ ∃rows:List (List Value),rows.length=xs.length/\(raw d.sz).R e w base (λk=>some k=v.ownBlock) v rows/\ ∀(j:Nat) (x:α) (c:List Value),xs[j]? =some x->rows[j]? =some c->FK d w (λk=>ok k/\some k≠v.ownBlock) x c
end
end Kd
end Go.Proofs.YtjocbnjpjihpnaaGreatW.AD
end
section
namespace Go.Proofs.YtjocbnjpjihpnaaGreatW.AD
open Go.RowKit
namespace Kd
section
variable {α:Type} {d:Kd α} {W:World} {g n:Nat} {S ok:Nat->Prop} {A:Option Addr} {ad:Addr} {xs:List α}
end
end Kd
end Go.Proofs.YtjocbnjpjihpnaaGreatW.AD
end
section
namespace Go.Proofs.YtjocbnjpjihpnaaGreatW.AD
open Go.RowKit
section
variable {w w' u:World} {m B g:Nat} {o:Obj} {row:Option Nat} {S:Nat->Prop} {a:Addr} {v:Value}
end
namespace Kd
section
variable {α:Type} {d:Kd α} {e base n m:Nat} {ok:Nat->Prop} {w w':World} {v:Value} {A:Option Addr} {xs:List α}
end
end Kd
end Go.Proofs.YtjocbnjpjihpnaaGreatW.AD
end
section
namespace Go.Proofs.YtjocbnjpjihpnaaGreatW.AD
open Go.RowKit
section
section
variable {P:Program} {d:Nat} {xs ys:Array Value} {f:Field} {fs:List Field} {a b:Value} {r s:Bool} {w:World}
end
end
end Go.Proofs.YtjocbnjpjihpnaaGreatW.AD
end
section
namespace Go.Proofs.YtjocbnjpjihpnaaGreatW.AR
open Go.Proofs.YtjocbnjpjihpnaaGreatW.AD (Bc)
section
def N1 (md:Region.Mode) (o:Oper):List Nat:=(o.after.toList.filter (λe=>Region.binds md e)).map (λe=>e.on)
def iB (md:Region.Mode) (ops:Array Oper) (i:Nat) (oi:Oper):List Nat:=(List.range ops.size).filter λj=> !(j==i)&&match ops[j]? with
 | some oj=> !(oj.after.any (λe=>Region.binds md e&&e.on==i) || oi.apart ops oj)
 | none=>false
def NI (md:Region.Mode) (ops:Array Oper):Bool × List (List Nat × List Nat):=(Region.noSelect ops,(List.range ops.size).map λi=>match ops[i]? with
 | some o=>(N1 md o,iB md ops i o)
 | none=>([],[]))
def Ll (T:List (List Nat × List Nat)) (l:List Bool) (i:Nat):Bool:= !l.getD i true&&match T[i]? with
 | some r=>r.1.all (λj=>l.getD j false)
 | none=>false
def Zc (T:List (List Nat × List Nat)) (l:List Bool):List Nat:=(List.range T.length).filter (Ll T l)
def mL (T:List (List Nat × List Nat)) (l:List Bool) (i:Nat):Bool:=match T[i]? with
 | some r=>r.2.all (λj=>l.getD j true)
 | none=>false
def Y5 (T:List (List Nat × List Nat)) (l:List Bool):Bool:=(List.range T.length).all λj=> !l.getD j false || match T[j]? with
 | some r=>r.1.all (λk=>l.getD k false)
 | none=>true
def WL (T:List (List Nat × List Nat)) (i:Nat):Nat->Nat->Bool
 | 0,_=>false
 | fuel+1,d=>match T[d]? with
   | some r=>r.1.any λj=>j==i || WL T i fuel j
   | none=>false
def uE (T:List (List Nat × List Nat)) (l:List Bool) (ds:List Nat) (i:Nat):Bool:=ds.all λd=>l.getD d true || WL T i T.length d
section
variable {md:Region.Mode} {ops:Array Oper} {T:Bool × List (List Nat × List Nat)} {l l' li lj lk:Array Bool} {ds:List Nat} {i j k:Nat}
theorem gd (l:Array Bool) (j:Nat) (b:Bool):l.getD j b=l.toList.getD j b:=by simp[ANz,ANJ]
theorem WM (o:Oper) (p:Nat->Bool):o.after.all (λe=> !Region.binds md e || p e.on)=(N1 md o).all p:=by
 unfold N1;rw[<-Array.all_toList];induction o.after.toList with
 | nil=>rfl
 | cons e r ih =>
   rw[APQ,ih,List.filter_cons];cases h:Region.binds md e<;>simp
theorem vu (o:Oper) (p:Nat->Bool):o.after.any (λe=>Region.binds md e&&p e.on)=(N1 md o).any p:=by
 unfold N1;rw[<-Array.any_toList];induction o.after.toList with
 | nil=>rfl
 | cons e r ih =>
   rw[List.any_cons,ih,List.filter_cons];cases h:Region.binds md e<;>simp
theorem Lm:(NI md ops).2.length=ops.size:=by simp[NI]
theorem RZ {o:Oper} (h:ops[i]? =some o):(NI md ops).2[i]? =some (N1 md o,iB md ops i o):=by
 have hi:=(AOF.1 h).1;unfold NI;rw[APA,APd hi,APi,h]
theorem Ra (h:ops[i]? =none):(NI md ops).2[i]? =none:=by
 have hi:ops.size<=i:=Array.getElem?_eq_none_iff.1 h;exact ANq (by rw[Lm];exact hi)
theorem qq:Ll (NI md ops).2 l.toList i=(!l.getD i true&&((ops[i]?).map (·.after.all λe=> !Region.binds md e || l.getD e.on false)).getD false):=by
 unfold Ll;rw[gd];cases h:ops[i]? with
 | none=>rw[Ra h];rfl
 | some o =>
   rw[RZ h];simp only[APi,APa];rw[<-WM];simp only[gd]
theorem mM:Region.ready md ops l=Zc (NI md ops).2 l.toList:=by
 unfold Region.ready Zc;rw[Lm];refine List.filter_congr (λi _=> ?_);rw[qq]
theorem free_eq:Region.free md ops l i=mL (NI md ops).2 l.toList i:=by
 unfold Region.free mL;cases h:ops[i]? with
 | none=>rw[Ra h]
 | some oi =>
   rw[RZ h];simp only[iB];rw[List.all_filter]
   congr 1
   funext j
   rw[gd];cases hj:ops[j]? with
   | none=>cases(j==i)<;>cases(l.toList.getD j true)<;>simp
   | some oj =>
     cases(j==i)<;>cases(l.toList.getD j true)<;>cases(oj.after.any (λe=>Region.binds md e&&e.on==i) || oi.apart ops oj)<;>simp_all
theorem closed_eq:Region.UX md ops l=Y5 (NI md ops).2 l.toList:=by
 unfold Region.UX Y5;rw[Lm]
 congr 1
 funext j
 rw[gd];cases h:ops[j]? with
 | none=>rw[Ra h]
 | some o =>
   rw[RZ h];simp only;rw[<-WM];simp only[gd]
theorem reach_eq : ∀(fuel d:Nat),Region.KN md ops i fuel d=WL (NI md ops).2 i fuel d
 | 0,_=>rfl
 | fuel+1,d=>by
   unfold Region.KN WL;cases h:ops[d]? with
   | none=>rw[Ra h]
   | some o =>
     rw[RZ h];simp only;rw[<-vu]
     congr 1
     funext e
     rw[reach_eq fuel]
theorem last_eq:Region.uC md ops l ds i=uE (NI md ops).2 l.toList ds i:=by
 unfold Region.uC uE;rw[Lm]
 congr 1
 funext d
 rw[gd,reach_eq]
theorem XP (h:Ll T.2 l.toList i=true) (hT:NI md ops=T):(Region.ready md ops l).contains i=true:=by
 subst hT;rw[mM];unfold Zc;rw[List.contains_iff_mem,List.mem_filter,AOU];refine⟨?_,h⟩;unfold Ll at h;rw[ANQ] at h;cases hq:(NI md ops).2[i]? with
 | none=>rw[hq] at h;simp at h
 | some r=>exact(ANN.1 hq).1
theorem qt (h:(l.toList.set i true==l'.toList)=true):(l.setIfInBounds i true==l')=true:=by
 rw[beq_iff_eq] at h ⊢;apply AQm;rw[AQE];exact h
def AEf (T:Bool × List (List Nat × List Nat)) (l l':List Bool) (i:Nat):Bool:=T.1&&mL T.2 l i&&Ll T.2 l i&&(l.set i true==l')
theorem AEg (hT:NI md ops=T) (h:AEf T l.toList l'.toList i=true):AB1 md ops l l' i=true:=by
 simp only[AEf,ANQ] at h;obtain⟨⟨⟨h1,h2⟩,h3⟩,h4⟩:=h;have h5:=XP h3 hT;have h6:=qt h4;subst hT;simp only[AB1,ANQ];exact⟨⟨⟨h1,by rw[free_eq];exact h2⟩,h5⟩,h6⟩
def yY (T:Bool × List (List Nat × List Nat)) (ds:List Nat) (l l':List Bool) (i:Nat):Bool:=T.1&&mL T.2 l i&&Ll T.2 l i&&Y5 T.2 l&&uE T.2 l ds i&&(l.set i true==l')
theorem AB3 (hT:NI md ops=T) (h:yY T ds l.toList l'.toList i=true):mI md ops ds l l' i=true:=by
 simp only[yY,ANQ] at h;obtain⟨⟨⟨⟨⟨h1,h2⟩,h3⟩,h4⟩,h5⟩,h6⟩:=h;have h7:=XP h3 hT;have h8:=qt h6;subst hT;simp only[mI,ANQ];exact⟨⟨⟨⟨⟨h1,by rw[free_eq];exact h2⟩,h7⟩,by rw[closed_eq];exact h4⟩,by rw[last_eq];exact h5⟩,h8⟩
theorem AEh (hT:NI md ops=T) (h:(Zc T.2 l.toList== [i]&&l.toList.set i true==l'.toList)=true):iA md ops l l' i=true:=by
 simp only[ANQ] at h;obtain⟨h1,h2⟩:=h;subst hT;simp only[iA,ANQ];exact⟨by rw[mM];exact h1,qt h2⟩
def upM (B:List Nat) (d:Nat):List Nat->Nat
 | []=>0
 | n::r=>(2^n ||| (if n<d then B.getD n 0 else 0)) ||| upM B d r
def iC (T:List (List Nat × List Nat)) (B:List Nat):Bool:=(List.range T.length).all λd=>match T[d]? with
 | some r=>(B.getD d 0 ||| upM B d r.1)==upM B d r.1
 | none=>false
theorem uF {B:List Nat} {d i:Nat} : ∀ {ns:List Nat},(upM B d ns).testBit i=true-> ∃n∈ns,n=i\/(n<d/\(B.getD n 0).testBit i=true)
 | [],h=>by simp[upM] at h
 | n::r,h=>by
   unfold upM at h;rw[APq,APq,AOi,AOi] at h;rcases h with(h | h) | h
   · rw[APe] at h
     exact⟨n,ANH, .inl (by simpa using h)⟩
   · by_cases hn:n<d
     · rw[if_pos hn] at h
       exact⟨n,ANH, .inr ⟨hn,h⟩⟩
     · rw[if_neg hn] at h
       simp at h
   · obtain⟨m,hm,h2⟩:=uF h
     exact⟨m,ANG _ hm,h2⟩
theorem eW {T:List (List Nat × List Nat)} {B:List Nat} (hB:iC T B=true) : ∀(fuel d:Nat),d<fuel->d<T.length->(B.getD d 0).testBit i=true->WL T i fuel d=true
 | 0,d,h,_,_=>by omega
 | fuel+1,d,h,hd,hb=>by
   have h1:=ANy.1 hB d (AOU.2 hd);cases hr:T[d]? with
   | none=>rw[hr] at h1;simp at h1
   | some r =>
     rw[hr] at h1;simp only[beq_iff_eq] at h1;have h2:(upM B d r.1).testBit i=true:=(by rw[<-h1,APq,hb,AQn]);obtain⟨n,hn,h3⟩:=uF h2;unfold WL;rw[hr];simp only;rw[List.any_eq_true];refine⟨n,hn, ?_⟩;rcases h3 with rfl | ⟨h4,h5⟩
     · simp
     · rw[eW hB fuel n (by omega) (by omega) h5,Bool.or_true]
def ADc (T:List (List Nat × List Nat)) (B:List Nat) (l:List Bool) (ds:List Nat) (i:Nat):Bool:=ds.all λd=>l.getD d true || (decide (d<T.length)&&(B.getD d 0).testBit i)
def yZ (T:Bool × List (List Nat × List Nat)) (B ds:List Nat) (l l':List Bool) (i:Nat):Bool:=T.1&&mL T.2 l i&&Ll T.2 l i&&Y5 T.2 l&&ADc T.2 B l ds i&&(l.set i true==l')
theorem ya {B:List Nat} (hT:NI md ops=T) (hB:iC T.2 B=true) (h:yZ T B ds l.toList l'.toList i=true):mI md ops ds l l' i=true:=by
 refine AB3 hT ?_;simp only[yZ,yY,ANQ] at h ⊢;obtain⟨⟨⟨⟨⟨h1,h2⟩,h3⟩,h4⟩,h5⟩,h6⟩:=h;refine⟨⟨⟨⟨⟨h1,h2⟩,h3⟩,h4⟩, ?_⟩,h6⟩;unfold ADc at h5;unfold uE;rw[ANy] at h5 ⊢;intro d hd;have h7:=h5 d hd;rw[AOi,ANQ,decide_eq_true_eq] at h7;rcases h7 with h7 | ⟨h8,h9⟩
 · rw[h7,AQn]
 · rw[eW hB _ d h8 h8 h9,Bool.or_true]
end
end
section
section
variable {P:Program} {ops:Array Oper} {Q:Exit->Act->World->Prop} {md:Region.Mode} {S:World->Prop} {ds:List Nat} {T:Bool × List (List Nat × List Nat)}
end
end
end Go.Proofs.YtjocbnjpjihpnaaGreatW.AR
end
section
namespace Go.Proofs.YtjocbnjpjihpnaaGreatW.AD
open Go.RowKit
section
section
variable {P:Program} {ops:Array Oper} {rest:List Oper} {o:Oper} {a:Act} {Q:Exit->Act->World->Prop} {W:World}
end
end
end Go.Proofs.YtjocbnjpjihpnaaGreatW.AD
end
section
namespace Go.Proofs.YtjocbnjpjihpnaaGreatW.AR
section
def up (b:Nat->Bool) (i:Nat):Nat->Bool:=λj=>if j=i then true else b j
section
variable {P:Program} {ops:Array Oper} {Q:Exit->Act->World->Prop} {md:Region.Mode} {T:Bool × List (List Nat × List Nat)} {B O:List Nat} {b:Nat->Bool} {i j n:Nat}
def WN (T:List (List Nat × List Nat)) (O:List Nat) (b:Nat->Bool):Prop:= ∀d r,T[d]? =some r->O.contains d=true->b d=true-> ∀n∈r.1,O.contains n=true->b n=true
end
end
end Go.Proofs.YtjocbnjpjihpnaaGreatW.AR
end
section
namespace Go.Proofs.YtjocbnjpjihpnaaGreatW.AD
open Go.RowKit
end Go.Proofs.YtjocbnjpjihpnaaGreatW.AD
namespace Go.Proofs.YtjocbnjpjihpnaaGreatW.AR
section
variable {ops:Array Oper} {a:Act} {o og:Oper} {g:Nat} {t:Tmp} {u:Bool}
end
end Go.Proofs.YtjocbnjpjihpnaaGreatW.AR
end
section
namespace Go.Proofs.YtjocbnjpjihpnaaGreatW.AD
open Go.RowKit
namespace Kd
section
variable {α:Type} {d:Kd α} {e base g o n cap:Nat} {ok TZ:Nat->Prop} {w W:World} {v:Value} {xs:List α}
theorem AJI (h:d.Q e w base ok v xs) (hp:0<xs.length) : ∃g o cap,v= .slice (some ⟨g,o,none⟩) xs.length cap/\base<=g/\g<w.heap.size/\ ∃cells,w.heap[g]? =some (.cells cells e (0,0)):=by
 obtain⟨h0,inner,hq,hr⟩:=h;rcases hq.2 with⟨h1,_⟩ | ⟨g,off,cap,cur,rfl,hb,hh,r⟩
 · omega
 · exact⟨g,off*d.sz,cap,rfl,hb,ZU hh,cur,hh⟩
theorem yc (h:d.Q e W base ok (.slice (some ⟨g,o,none⟩) n cap) xs) (z:α) (i:Int) (h0:0<=i) (h1:i<n) :
 ∃c,c.length=d.sz/\d.M W base (λk=>ok k/\k≠g) (xs.getD i.toNat z) c/\(∀j u,c[j]? =some u->W.cell? ⟨g,o+i.toNat*d.sz+j,none⟩=some u)/\ ∀j,W.frozen? ⟨g,o+i.toNat*d.sz+j,none⟩=false:=by
 obtain⟨hn,hnc,hC⟩:=Za h;obtain⟨_,inner,ho,hr⟩:=h;have hil:i.toNat<xs.length:=by omega
 have AEi:i.toNat*d.sz+d.sz<=inner.length:=by rw[hr.1,<-AN9];exact ANV _ hil
 have hM:=hr.2 i.toNat _ (ANX hil);refine⟨(inner.drop (i.toNat*d.sz)).take d.sz,by rw[ANO,ANo];omega, ?_,λj u hu=> ?_,λj=> ?_⟩
 · rw[ANJ,ANX hil]
   exact d.Cf (λk hk=>⟨hk.1,λhe=>hk.2 (by rw[he];simp[Value.ownBlock])⟩) hM
 · rw[ANg] at hu
   split at hu
   · rw[ANj] at hu
     subst hn;obtain⟨ad,he,hc⟩:=uB ho (by omega);injection he with he;subst he;have:=hc _ u hu
     rwa [Hf,<-AOt] at this
   · cases hu
 · obtain⟨_,cells,hc⟩:=ABz ho g (by simp[Value.ownBlock])
   exact ZV hc _
theorem AGF (h:d.Q e W base ok (.slice (some ⟨g,o,none⟩) n cap) xs) (i:Int) (h0:0<=i) (h1:i<n) {c seg:List Value} {j:Nat} (hcl:c.length=d.sz) (hcc : ∀j u,c[j]? =some u->W.cell? ⟨g,o+i.toNat*d.sz+j,none⟩=some u)
 (hj:j+seg.length<=d.sz) {x':α} (hM:d.M W base TZ x' (c.take j++seg++c.drop (j+seg.length))) (g8 : ∀k,TZ k->ok k/\k≠g) :
 d.Q e (W.setCells g (o+i.toNat*d.sz+j) seg) base ok (.slice (some ⟨g,o,none⟩) n cap) (xs.set i.toNat x')/\W.grownBy (W.setCells g (o+i.toNat*d.sz+j) seg) (some g):=by
 obtain⟨hn,hnc,_⟩:=Za h;obtain⟨hok,inner,ho,hr⟩:=h;have hil:i.toNat<xs.length:=by omega
 have AEi:i.toNat*d.sz+d.sz<=inner.length:=by rw[hr.1,<-AN9];exact ANV _ hil
 have hin:inner.length=n*d.sz:=by rw[hr.1,hn]
 obtain⟨ho1,ho2⟩:=ho;rcases ho2 with⟨hz,_⟩ | ⟨g',off,cap',cur,hv,hb,hh,AMm,hcm,hcs,ht⟩
 · omega
 injection hv with ha _ hc;injection ha with ha;injection ha with hg hoff;subst hg;subst hc;subst hoff;have hcap:n*d.sz<=cap*d.sz:=ANV _ hnc;have AMn:cur.size=off*d.sz+cap*d.sz:=by rw[hcs,AO5]
 have hfit:off*d.sz+i.toNat*d.sz+j+seg.length<=cur.size:=by omega
 obtain⟨cur',h3,h4,h5⟩:=UW seg (off*d.sz+i.toNat*d.sz+j) W cur hh hfit;obtain⟨s1,s2,s3,s4⟩:=Sr g seg (off*d.sz+i.toNat*d.sz+j) W;have AEj : ∀k,k≠g->(W.setCells g (off*d.sz+i.toNat*d.sz+j) seg).heap[k]? =W.heap[k]? :=λk hk=>UU seg _ k hk
 rw[<-hn] at ht;have Mm : ∀q,q<n*d.sz->cur.toList[off*d.sz+q]? =inner[q]? :=by
  intro q hq;rw[<-ht,ANg,if_pos hq,ANj]
 have hcin : ∀q,q<d.sz->c[q]? =inner[i.toNat*d.sz+q]? :=by
  intro q hq;have yO:q<c.length:=by omega
  have h6:=hcc q _ (ANX yO);rw[cell_of_row W g _ cur e (0,0) hh] at h6;rw[ANX yO,<-h6,<-Mm _ (by omega),AQd,AOt]
 refine⟨⟨hok,inner.take (i.toNat*d.sz+j)++seg++inner.drop (i.toNat*d.sz+j+seg.length),⟨?_, .inr ⟨g,off,cap,cur',by rw[AN3,hn],hb,h3,by rw[AN3,<-hn];exact hnc,hcm,by rw[h4,hcs], ?_⟩⟩, ?_⟩,
  ⟨s1,s2,s3,by rw[s4];exact ANS _,λk _ hk=>AEj k (λhe=>hk (by rw[he]))⟩⟩
 · rw[AN3]
   simp only[ANT,ANO,ANo];rw[hr.1] at AEi ⊢;omega
 · rw[AN3,<-hn]
   apply AOP;intro q;rw[ANg,ANj,h5];rw[RY cur.toList seg (off*d.sz+i.toNat*d.sz+j) (by rw[APc];omega) (off*d.sz+q),RY inner seg (i.toNat*d.sz+j) (by omega) q];by_cases hq:q<n*d.sz
   · rw[if_pos hq]
     by_cases yC:q<i.toNat*d.sz+j
     · rw[if_pos (by omega),if_pos yC,Mm q hq]
     · rw[if_neg (by omega),if_neg yC]
       by_cases hq2:q<i.toNat*d.sz+j+seg.length
       · rw[if_pos (by omega),if_pos hq2]
         congr 1
         omega
       · rw[if_neg (by omega),if_neg hq2,Mm q hq]
   · rw[if_neg hq,if_neg (by omega),if_neg (by omega),ANq (by omega)]
 · refine⟨?_,λm p hm=> ?_⟩
   · rw[AN3]
     simp only[ANT,ANO,ANo];rw[hr.1] at AEi ⊢;omega
   · have hml:m<xs.length:=by
      have:=(ANN.1 hm).1
      rwa [AN3] at this
     have AMU:m*d.sz+d.sz<=inner.length:=(by rw[hr.1,<-AN9];exact ANV _ hml);have hgo:some g=(Value.slice (some ⟨g,off*d.sz,none⟩) n cap).ownBlock:=(by simp[Value.ownBlock]);by_cases yB:m=i.toNat
     · subst yB
       rw[AN2 (by omega)] at hm;injection hm with hm;subst hm;have qu:((inner.take (i.toNat*d.sz+j)++seg++inner.drop (i.toNat*d.sz+j+seg.length)).drop (i.toNat*d.sz)).take d.sz=c.take j++seg++c.drop (j+seg.length):=by
        apply AOP;intro q;rw[ANg,ANj,RY inner seg _ (by omega),RY c seg j (by omega) q];by_cases hq:q<d.sz
        · rw[if_pos hq,hcin q hq]
          by_cases yC:q<j
          · rw[if_pos (by omega),if_pos yC]
          · rw[if_neg (by omega),if_neg yC]
            by_cases hq2:q<j+seg.length
            · rw[if_pos (by omega),if_pos hq2]
              congr 1
              omega
            · rw[if_neg (by omega),if_neg hq2]
        · rw[if_neg hq,if_neg (by omega),if_neg (by omega),ANq (by omega)]
       rw[qu];refine d.Cf (λk hk=> ?_) (d.D0 (w1:=W.setCells g (off*d.sz+i.toNat*d.sz+j) seg) (λk hk=>AEj k (g8 k hk).2) hM);exact⟨(g8 k hk).1,λhe=>(g8 k hk).2 (by rw[<-hgo] at he;injection he)⟩
     · rw[ANf (by omega)] at hm
       have hold:=hr.2 m p hm;have qu:((inner.take (i.toNat*d.sz+j)++seg++inner.drop (i.toNat*d.sz+j+seg.length)).drop (m*d.sz)).take d.sz=(inner.drop (m*d.sz)).take d.sz:=by
        apply AOP;intro q;rw[ANg,ANg,ANj,ANj,RY inner seg _ (by omega)];by_cases hq:q<d.sz
        · rw[if_pos hq,if_pos hq]
          rcases Nat.lt_or_gt_of_ne yB with hlt | hgt
          · have:m*d.sz+d.sz<=i.toNat*d.sz:=by rw[<-AN9];exact ANV _ hlt
            rw[if_pos (by omega)]
          · have:i.toNat*d.sz+d.sz<=m*d.sz:=by rw[<-AN9];exact ANV _ hgt
            rw[if_neg (by omega),if_neg (by omega)]
        · rw[if_neg hq,if_neg hq]
       rw[qu];refine d.D0 (λk hk=>AEj k (λhe=>hk.2 (by rw[he];exact hgo))) hold
end
section
variable {α:Type} {enc:α->Value} {h1 : ∀x,(enc x).oneCell'=true} {e base g o n cap:Nat} {ok:Nat->Prop} {W:World} {xs:List α}
theorem AJJ (d:α) (h:(scalar enc h1).Q e W base ok (.slice (some ⟨g,o,none⟩) n cap) xs) (i:Int) (h0:0<=i) (hi:i<n):W.cell? ⟨g,o+i.toNat,none⟩=some (enc (ABw d xs i))/\W.frozen? ⟨g,o+i.toNat,none⟩=false:=by
 obtain⟨c,_,hM,hcc,hf⟩:=yc h d i h0 hi;have hM':c= [enc (xs.getD i.toNat d)]:=hM;subst hM';have h2:=hcc 0 _ rfl;have h3:=hf 0;rw[show(scalar enc h1).sz=1 from rfl,AQY,AQH] at h2 h3;exact⟨h2,h3⟩
theorem AJK (h:(scalar enc h1).Q e W base ok (.slice (some ⟨g,o,none⟩) n cap) xs) (i:Int) (h0:0<=i) (hi:i<n) (x:α):(scalar enc h1).Q e (W.setCell ⟨g,o+i.toNat,none⟩ (enc x)) base ok (.slice (some ⟨g,o,none⟩) n cap) (xs.set i.toNat x)/\W.grownBy (W.setCell ⟨g,o+i.toNat,none⟩ (enc x)) (some g):=by
 have hp:0<xs.length:=by have:=(Za h).1;omega
 obtain⟨c,hcl,_,hcc,_⟩:=yc h (xs[0]'hp) i h0 hi;have h2:=AGF h i h0 hi (c:=c) (seg:= [enc x]) (j:=0) (TZ:=λ_=>False) (x':=x) hcl hcc (ANS 1) (by
  have hl:c.length=1:=hcl;show c.take 0++ [enc x]++c.drop (0+1)= [enc x];rw[ANn (by omega)];rfl) (λ_ hk=>hk.elim)
 rw[show(scalar enc h1).sz=1 from rfl,AQY,AQH] at h2;exact h2
end
end Kd
end Go.Proofs.YtjocbnjpjihpnaaGreatW.AD
end
section
namespace Go.Proofs.YtjocbnjpjihpnaaGreatW.AD
open Go.RowKit
namespace Kd
section
variable {α:Type} {d:Kd α} {e base n cap g:Nat} {ok ok' TZ:Nat->Prop} {w w1 W:World} {v v1:Value} {xs ys:List α}
end
section
variable {P:Program} {ops:Array Oper} {rest:List Oper} {o:Oper} {a:Act} {Q:Exit->Act->World->Prop} {Kc:Act->World->Prop} {α:Type}
end
end Kd
end Go.Proofs.YtjocbnjpjihpnaaGreatW.AD
end
section
namespace Go.Proofs.YtjocbnjpjihpnaaGreatW.AY
open Go.RowKit Go.Proofs.YtjocbnjpjihpnaaGreatW.AD
namespace Kd
open Go.Proofs.YtjocbnjpjihpnaaGreatW.AD.Kd
end Kd
namespace Kd
open Go.Proofs.YtjocbnjpjihpnaaGreatW.AD.Kd
section
variable {α:Type} {d:Kd α} {e base g N:Nat} {ok:Nat->Prop} {W w1:World} {u v:Value} {xs:List α}
end
end Kd
theorem Zd (k k':IntKind) (x y:Int):Builtin.max2 (.int k x) (.int k' y)=pure (.int k (if x<y then y else x)):=by simp only[Builtin.max2,gt_iff_lt]
theorem Ze (k k':IntKind) (x y:Int):Builtin.min2 (.int k x) (.int k' y)=pure (.int k (if y<x then y else x)):=by simp only[Builtin.min2]
theorem uG (ats:Array TypeId) (ty:TypeId) (a b:Value):Builtin.max_ ats ty #[a,b]=(Builtin.max2 a b >>= λs=>pure s):=by simp only[Builtin.max_,APH,APO]
theorem uH (ats:Array TypeId) (ty:TypeId) (a b:Value):Builtin.min_ ats ty #[a,b]=(Builtin.min2 a b >>= λs=>pure s):=by simp only[Builtin.min_,APH,APO]
theorem eY (ats:Array TypeId) (ty:TypeId) (a b c:Value):Builtin.max_ ats ty #[a,b,c]=(Builtin.max2 a b >>= λs=>Builtin.max2 s c >>= λs=>pure s):=by simp only[Builtin.max_,APH,APO]
theorem eZ (ats:Array TypeId) (ty:TypeId) (a b c:Value):Builtin.min_ ats ty #[a,b,c]=(Builtin.min2 a b >>= λs=>Builtin.min2 s c >>= λs=>pure s):=by simp only[Builtin.min_,APH,APO]
theorem mN (ats:Array TypeId) (ty:TypeId) (a b c d:Value):Builtin.max_ ats ty #[a,b,c,d]=(Builtin.max2 a b >>= λs=>Builtin.max2 s c >>= λs=>Builtin.max2 s d >>= λs=>pure s):=by simp only[Builtin.max_,APH,APO]
theorem mO (ats:Array TypeId) (ty:TypeId) (a b c d:Value):Builtin.min_ ats ty #[a,b,c,d]=(Builtin.min2 a b >>= λs=>Builtin.min2 s c >>= λs=>Builtin.min2 s d >>= λs=>pure s):=by simp only[Builtin.min_,APH,APO]
end Go.Proofs.YtjocbnjpjihpnaaGreatW.AY
namespace Go.Proofs.YtjocbnjpjihpnaaGreatW.AD
open Go.RowKit
section
variable {P:Program} {ops:Array Oper} {rest:List Oper} {o:Oper} {a:Act} {Q:Exit->Act->World->Prop} {W:World}
theorem XQ {f:FuncId} {as:Array Operand} {ts:Array TypeId} (_ho:o.op= .call {callee:= .value (.func f),args:=as,argTypes:=ts}) (h:wpList P ops Q (o::rest) a W):wpList P ops Q (o::rest) a W:=h
theorem N2 {b:Builtin} {xs:Array Operand} {ts:Array TypeId} (_ho:o.op= .call {callee:= .builtin b,args:=xs,argTypes:=ts}) (h:wpList P ops Q (o::rest) a W):wpList P ops Q (o::rest) a W:=h
end
def mx (a b:Int):Int:=if a<b then b else a
def mn (a b:Int):Int:=if b<a then b else a
def shl (k:IntKind) (x y:Int):Int:=k.wrap (x*2^min y.toNat k.bits)
def shr (k:IntKind) (x y:Int):Int:=x/2^min y.toNat k.bits
namespace Kd
section
variable {α:Type} {d:Kd α} {e base:Nat} {ok:Nat->Prop} {W w1:World} {v:Value} {xs:List α}
end
section
variable {α:Type} {d:Kd α} {e base g n cap:Nat} {ok oki TZ:Nat->Prop} {W:World} {xs:List α} {i:Int} {c:List Value}
end
section
variable {α:Type} {d:Kd α} {e base b b' g N:Nat} {ok ok1:Nat->Prop} {W W2 w1:World} {u v:Value} {xs ys:List α} {S:Nat->Prop}
end
end Kd
end Go.Proofs.YtjocbnjpjihpnaaGreatW.AD
namespace Go.Proofs.YtjocbnjpjihpnaaGreatW.AD
open Go.RowKit
namespace Kd
def V {α:Type} (d:Kd α) (_e:Nat) (W:World) (_base:Nat) (ok:Nat->Prop) (v:Value) (xs:List α):Prop:= ∃A c,v= .slice A xs.length c/\xs.length<=c/\F d W ok A xs.length xs
section
variable {α β:Type} {d:Kd α} {e base base' n m c g N' lo hi:Nat} {ok ok' S:Nat->Prop} {w W w1:World} {A:Option Addr} {ad:Addr} {u v v1:Value} {xs:List α}
end
end Kd
end Go.Proofs.YtjocbnjpjihpnaaGreatW.AD
end
section
set_option linter.unusedVariables false
set_option linter.unusedSimpArgs false
namespace Go.Proofs.YtjocbnjpjihpnaaGreatW.AD
open Go.RowKit
theorem iD {α:Type} {Rr:α->List Value->Prop} {sz:Nat} {w:World} {A:Option Addr} {n m:Nat} {xs:List α} (h:n=m) (H:Ef Rr sz w A n xs):Ef Rr sz w A m xs:=h▸H
namespace Kd
section
variable {P:Program} {ops:Array Oper} {rest:List Oper} {o:Oper} {a:Act} {Q:Exit->Act->World->Prop} {W:World} {Kc:Act->World->Prop}
variable {α:Type}
theorem dP (d:Kd α) (base e:Nat) (z:Value) (hz:z.cells.size=d.sz) (hs0:0<d.sz) (z0:α) {ok TZ:Nat->Prop} (hzero:d.M W base TZ z0 z.cells.toList) (hok : ∀k,TZ k->ok k) (LH:ok W.heap.size)
 (n c:Nat) (hnc:n<=c) (hm:c<=9223372036854775807) (hbase:base<=W.heap.size) :
 d.R e (W.alloc (.cells (madeCells z.cells (c*d.sz)) e)) base ok (.slice (some ⟨W.heap.size,0,none⟩) n c) (List.replicate n z0):=by
 have qk:=eT (R:=d.M W base TZ) hz hs0 hzero c;have hR:d.R e (W.alloc (.cells (madeCells z.cells (c*d.sz)) e)) base ok (.slice (some ⟨W.heap.size,0,none⟩) c c) (List.replicate c z0):=by
  refine⟨λk hk=> ?_,(madeCells z.cells (c*d.sz)).toList, ?_, ?_⟩
  · have:W.heap.size=k:=by simpa[Value.ownBlock] using hk
    subst this;exact LH
  · have h2:=World.ownsRow_lit (base:=base) (e:=e) (size:=d.sz) W (madeCells z.cells (c*d.sz)) c hbase (by simpa[maxLen] using hm) (by simpa using qk.1)
    simpa using h2
  · refine qk.Gh (λp c' hp=>d.Cf (λk hk=>⟨hok k hk.1,λhe=> ?_⟩) (uA (d.C8 hp) (BG (Below.refl _ _) _)))
    have h3:k=W.heap.size:=(by simpa[Value.ownBlock] using he);have:=hk.2.2.1;omega
 have h:=AEc (m:=n) hR (by simpa using hnc)
 rwa [List.take_replicate,ANb hnc] at h
theorem vv (d:Kd α) {w0 W:World} (base e:Nat) (hgd:o.guard=none) {N:Tmp} (hd:o.dst=some N) (t:TypeId) (x y:Operand) (ho:o.op= .makeSlice t x y) (n c:Int) (hx:a.eval x= .int .i64 n) (hy:a.eval y= .int .i64 c)
 (ht:P.underlying t=some (.slice e)) (z:Value) (bytes:Nat) (hinfo:(P.info? e).map (λi=>(i.zero,i.size,i.bytes))=some (some z,d.sz,bytes)) (hz:z.cells.size=d.sz) (hs0:0<d.sz) (hb0:0<bytes)
 (z0:α) {ok TZ:Nat->Prop} (hzero:d.M W base TZ z0 z.cells.toList) (hok : ∀k,TZ k->ok k) (LH:ok W.heap.size) (h0:0<=n) (hnc:n<=c) (hl:c.toNat*bytes<=281474976710656) (HB:Below base w0 W) (hbase:base<=W.heap.size)
 (h : ∀v1 w1,d.R e w1 base ok v1 (List.replicate n.toNat z0)->Below base w0 w1->W.grownBy w1 none->(∃b,v1.ownBlock=some b/\W.heap.size<=b)->wpList P ops Q rest (a.put o.dst v1) w1):wpList P ops Q (o::rest) a W:=by
 obtain⟨m,rfl⟩:=ANR h0;obtain⟨q,rfl⟩:=ANR (APC h0 hnc);simp only[ANI] at hl h;obtain⟨i0,hi,hzz⟩:=AOC.1 hinfo;simp only[APE] at hzz;obtain⟨qT,hz1,hz2⟩:=hzz;have hm:q<=281474976710656:=AN6 (AOo _ hb0) hl;have hr:=run_make (P:=P) W t e i0 z ht hi qT .i64 .i64 (m:Int) (q:Int) (by omega) (by omega)
  (by
    have h3:((i0.bytes*q:Nat):Int)<=281474976710656:=by rw[hz2,APB];omega
    rwa [APP] at h3) (by omega)
 simp only[ANI] at hr;rw[hz1] at hr;have hrun:(execOp a.eval o).run P W= .ok (.value (.slice (some ⟨W.heap.size,0,none⟩) m q)) (W.alloc (.cells (madeCells z.cells (q*d.sz)) e)):=by
  simp[execOp,ho,hx,hy,hr]
 exact eS hgd hrun (h _ _ (dP d base e z hz hs0 z0 hzero hok LH m q (by omega) (by omega) hbase) (HB.alloc hbase _) (World.grownBy_alloc W _ none) ⟨W.heap.size,by simp[Value.ownBlock],ANS _⟩)
end
end Kd
end Go.Proofs.YtjocbnjpjihpnaaGreatW.AD
end
section
namespace Go.Proofs.YtjocbnjpjihpnaaGreatW.AD
section
theorem Bn.one {α:Type} {R:α->List Value->Prop} {ps:List α} {cs:List Value} {p:α} {v:Value} (hp:R p [v]) (h:Bn R 1 ps cs):Bn R 1 (p::ps) (v::cs):=by
 refine⟨by simp[h.1],λj q hq=> ?_⟩;cases j with
 | zero =>
   simp only[AOf,APR] at hq;subst hq;simpa using hp
 | succ j =>
   simp only[AOW] at hq;have h1:=h.2 j q hq;simpa[AQY] using h1
theorem Bn.front {α:Type} {R:α->List Value->Prop} {size:Nat} {ps:List α} {cs c all:List Value} {p:α} (hp:R p c) (hc:c.length=size) (h:Bn R size ps cs) (ha:c++cs=all):Bn R size (p::ps) all:=by
 subst ha;refine⟨by rw[ANT,hc,h.1,ANt,AN9,APv],λj q hq=> ?_⟩;cases j with
 | zero =>
   simp only[AOf,APR] at hq;subst hq;rw[Nat.zero_mul,APY,AOZ (by omega),ANW (by omega)];exact hp
 | succ j =>
   simp only[AOW] at hq;have h1:=h.2 j q hq;rw[AN9,APG,List.drop_of_length_le (by rw[hc];exact Nat.le_add_left _ _),AO9,hc,APL];exact h1
theorem Bn.c2 {α:Type} {R:α->List Value->Prop} {ps:List α} {cs:List Value} {p:α} {va vb:Value} (hp:R p [va,vb]) (h:Bn R 2 ps cs):Bn R 2 (p::ps) (va::vb::cs):=Bn.front hp rfl h rfl
theorem Bn.c3 {α:Type} {R:α->List Value->Prop} {ps:List α} {cs:List Value} {p:α} {va vb vc:Value} (hp:R p [va,vb,vc]) (h:Bn R 3 ps cs):Bn R 3 (p::ps) (va::vb::vc::cs):=Bn.front hp rfl h rfl
theorem Bn.c4 {α:Type} {R:α->List Value->Prop} {ps:List α} {cs:List Value} {p:α} {va vb vc vd:Value} (hp:R p [va,vb,vc,vd]) (h:Bn R 4 ps cs):Bn R 4 (p::ps) (va::vb::vc::vd::cs):=Bn.front hp rfl h rfl
theorem Bn.c5 {α:Type} {R:α->List Value->Prop} {ps:List α} {cs:List Value} {p:α} {va vb vc vd ve:Value} (hp:R p [va,vb,vc,vd,ve]) (h:Bn R 5 ps cs):Bn R 5 (p::ps) (va::vb::vc::vd::ve::cs):=Bn.front hp rfl h rfl
theorem Bn.c6 {α:Type} {R:α->List Value->Prop} {ps:List α} {cs:List Value} {p:α} {va vb vc vd ve vf:Value} (hp:R p [va,vb,vc,vd,ve,vf]) (h:Bn R 6 ps cs):Bn R 6 (p::ps) (va::vb::vc::vd::ve::vf::cs):=Bn.front hp rfl h rfl
theorem Bn.c7 {α:Type} {R:α->List Value->Prop} {ps:List α} {cs:List Value} {p:α} {va vb vc vd ve vf vg:Value} (hp:R p [va,vb,vc,vd,ve,vf,vg]) (h:Bn R 7 ps cs):Bn R 7 (p::ps) (va::vb::vc::vd::ve::vf::vg::cs):=Bn.front hp rfl h rfl
theorem Bn.c10 {α:Type} {R:α->List Value->Prop} {ps:List α} {cs:List Value} {p:α} {va vb vc vd ve vf vg vh vi vj:Value} (hp:R p [va,vb,vc,vd,ve,vf,vg,vh,vi,vj]) (h:Bn R 10 ps cs):Bn R 10 (p::ps) (va::vb::vc::vd::ve::vf::vg::vh::vi::vj::cs):=Bn.front hp rfl h rfl
end
end Go.Proofs.YtjocbnjpjihpnaaGreatW.AD
end
section
namespace Go.Proofs.YtjocbnjpjihpnaaGreatW.AY
open Go.RowKit Go.Proofs.YtjocbnjpjihpnaaGreatW.AD Go.Proofs.YtjocbnjpjihpnaaGreatW.AR
section
inductive XR:World->World->Prop where
 | refl (w:World):XR w w
 | alloc {w w':World} (h:XR w w') (o:Obj):XR w (w'.alloc o)
 | drewN {w w':World} (h:XR w w') (n:Nat):XR w (w'.drewN n)
 | drew {w w':World} (h:XR w w'):XR w w'.drew
class Nx (w w':World):Prop where
 g:XR w w'
instance {w:World} :Nx w w:=⟨.refl w⟩
instance {w w':World} {o:Obj} [h:Nx w w']:Nx w (w'.alloc o):=⟨.alloc h.g o⟩
instance {w w':World} {n:Nat} [h:Nx w w']:Nx w (w'.drewN n):=⟨.drewN h.g n⟩
instance {w w':World} [h:Nx w w']:Nx w w'.drew:=⟨.drew h.g⟩
theorem st {α:Type} {d:Kd α} {e:Nat} {w w':World} {base:Nat} {ok:Nat->Prop} {v:Value} {xs:List α} (r:d.R e w base ok v xs) [h:Nx w w']:d.R e w' base ok v xs:=by
 obtain⟨g⟩:=h;induction g with
 | refl=>exact r
 | alloc _ o ih=>exact Kd.Jm ih o
 | drewN _ n ih=>exact Kd.Jn ih n
 | drew _ ih=>exact Kd.Mn ih
theorem cs {α:Type} {d:Kd α} {w w':World} {xs:List α} {A:Option Addr} {n:Nat} (r:d.C w A n xs) [h:Nx w w']:d.C w' A n xs:=by
 obtain⟨g⟩:=h;induction g with
 | refl=>exact r
 | alloc _ o ih=>exact Kd.US ih o
 | drewN _ m ih=>exact Kd.UT ih m
 | drew _ ih=>exact Kd.ZZ ih
theorem bb {w0 w w':World} (r:Below w0.heap.size w0 w) [h:Nx w w']:Below w0.heap.size w0 w':=by
 obtain⟨g⟩:=h;induction g with
 | refl=>exact r
 | alloc _ o ih=>exact BG ih o
 | drewN _ n ih=>exact Am ih n
 | drew _ ih=>exact Bl ih
theorem hbb {p:Prop} (h:p:=by repeat (first | (with_reducible first | exact HB.out | apply BG | apply Am | apply Bl | refine vp ?_ (Bc.out (by assumption))) | exact HB.out)):p:=h
theorem lx {p:Prop} (h:p:=by(try simp only[AP0,ANx,AQG]);first | done | rfl | (simp only[ANo,ANO];rfl) | (simp only[*];done)):p:=h
theorem er {p:Prop} (h:p:=by first | rfl | (simp[JO,JP]<;>rfl) | (simp[*,JO,JP]<;>rfl)):p:=h
section
variable {w:World} {g:Nat} {t:TypeId} {c0 c1 c2 c3 c4 c5:Value}
end
section
variable {P:Program} {md:Region.Mode} {ops:Array Oper} {Q:Exit->Act->World->Prop} {S:World->Prop} {ds:List Nat} {T:Bool × List (List Nat × List Nat)}
theorem pu (i:Nat) (N:Option Tmp) {oi:Oper} {v:Value} {fuel:Nat} {l:Array Bool} {a a':Act} {w:World} (hT:Bc (NI md ops=T))
 (h:Ak P md ops Q S ds fuel (l.setIfInBounds i true) a' w)
 (hi:ops[i]? =some oi:=by rfl) (hN:oi.dst=N:=by rfl) (hc:AEf T l.toList (l.setIfInBounds i true).toList i=true:=by kernel_rfl)
 (hQ : ∀c a w,Q (.panic c) (a.put oi.dst v) w->Q (.panic c) a w:=by exact λ_ _ _ h=>h)
 (hy:Yields P ops oi v a:=by exact Or.inl ⟨by rfl,by intro w';go_simp;with_reducible rfl⟩)
 (ha:a.put N v=a':=by simp only[Act.put,AO1,AQI,AO4,mJ,yW];rfl):Ak P md ops Q S ds (fuel+1) l a w :=
 AGC _ hi hN (AEg hT.out hc) hQ hy ha h
theorem ta (i:Nat) (N:Option Tmp) {oi:Oper} {v:Value} {fuel:Nat} {l:Array Bool} {a a':Act} {w:World} {B:List Nat} (hT:Bc (NI md ops=T)) (hB:Bc (iC T.2 B=true)) (hS:S w)
 (h:Ak P md ops Q S ds fuel (l.setIfInBounds i true) a' w)
 (hi:ops[i]? =some oi:=by rfl) (hN:oi.dst=N:=by rfl) (hc:yZ T B ds l.toList (l.setIfInBounds i true).toList i=true:=by kernel_rfl)
 (hQ : ∀c a w,Q (.panic c) (a.put oi.dst v) w->Q (.panic c) a w:=by exact λ_ _ _ h=>h)
 (hy:YieldsIf P ops S oi v a:=by exact Or.inl ⟨by rfl,by intro w' hs;(repeat (have s:=hs.1;replace hs:=hs.2));go_simp;with_reducible rfl⟩)
 (ha:a.put N v=a':=by simp only[Act.put,AO1,AQI,AO4,mJ,yW];rfl):Ak P md ops Q S ds (fuel+1) l a w :=
 tu _ hi hN (ya hT.out hB.out hc) hQ hy hS ha h
theorem nm {fuel:Nat} {l:Array Bool} {a a':Act} {w:World} (h:Ak P md ops Q S ds fuel l a' w)
 (ha:a=a':=by show Act.put _ _ _=_;simp only[Act.put,AO1,AQI,AO4,mJ,yW];rfl):Ak P md ops Q S ds fuel l a w:=AGE ha h
theorem on (i:Nat) (N:Option Tmp) {oi:Oper} {fuel:Nat} {l:Array Bool} {a:Act} {w:World} (hT:Bc (NI md ops=T))
 (h : ∀K:Act->World->Prop,Shut (∀a' w',S w'->(S w'->Ak P md ops Q S ds fuel (l.setIfInBounds i true) a' w')->K a' w')->if Region.wanted oi (yielded ops a.tmps)=true then Oper.wp P oi a w K Q else K (a.put N undef) w)
 (hi:ops[i]? =some oi:=by rfl) (hN:oi.dst=N:=by rfl) (hc:(Zc T.2 l.toList== [i]&&l.toList.set i true==(l.setIfInBounds i true).toList)=true:=by kernel_rfl) (hd:i ∉ ds:=by decide):Ak P md ops Q S ds (fuel+1) l a w :=
 AJG _ hi hN (AEh hT.out hc) hd h
end
section
variable {a b c d e f g h i j k l m P:Prop}
end
end
end Go.Proofs.YtjocbnjpjihpnaaGreatW.AY
end
section
namespace Go.Proofs.YtjocbnjpjihpnaaGreatW.AD
open Go.ChangeShapes Go.WideShapes
section
end
end Go.Proofs.YtjocbnjpjihpnaaGreatW.AD
end
section
/- Maps from numbers to numbers,as rows of pairs. -/
namespace Go.Proofs.YtjocbnjpjihpnaaGreatW.Gb
def mP:List (Int × Int)->Int->Int
 | [],_=>0
 | p::l,n=>if p.1=n then p.2 else mP l n
def Zf:List (Int × Int)->Int->Int->List (Int × Int)
 | [],n,v=> [(n,v)]
 | p::l,n,v=>if p.1=n then(n,v)::l else p::Zf l n v
end Go.Proofs.YtjocbnjpjihpnaaGreatW.Gb
end
section
namespace Go.Proofs.YtjocbnjpjihpnaaGreatW.Gb
open Go.RowKit Go.Proofs.YtjocbnjpjihpnaaGreatW.AD Go.Proofs.YtjocbnjpjihpnaaGreatW.AR Go.Proofs.YtjocbnjpjihpnaaGreatW.AY
set_option linter.unusedVariables false
set_option linter.unusedSectionVars false
section
inductive Ty where
 | int (k:IntKind) | bool | str | row (e:TypeId) (t:Ty) | cons (a b:Ty)
 deriving DecidableEq
@[reducible] def T:Ty->Type
  | .int _=>Int
  | .bool=>Bool
  | .str=>ByteArray
  | .row _ t=>List (T t)
  | .cons a b=>T a × T b
def kd:(t:Ty)->Kd (T t)
 | .int k=>Kd.int k
 | .bool=>Kd.bool
 | .str=>Kd.string
 | .row e t=>Kd.slice e (kd t)
 | .cons a b=>Kd.pair (kd a) (kd b)
def dflt:(t:Ty)->T t
 | .int _=>(0:Int)
 | .bool=>false
 | .str=>(⟨#[]⟩:ByteArray)
 | .row _ _=> []
 | .cons a b=>(dflt a,dflt b)
def Ty.size:Ty->Nat
 | .cons a b=>a.size+b.size
 | _=>1
theorem Ey : ∀t:Ty,(kd t).sz=t.size
 | .int _=>rfl
 | .bool=>rfl
 | .str=>rfl
 | .row _ _=>rfl
 | .cons a b=>by show(kd a).sz+(kd b).sz=a.size+b.size;rw[Ey a,Ey b]
inductive AC where
 | ro (t:Ty) (x:T t)
 | Bo | Li
 | own (j:Nat)
 | ptr (j o:Nat)
 | Hg (j:Nat)
 | qU (j:Nat) (i:Int) (o sz:Nat)
 | rel (t:Ty) (x:T t)
 | FA
inductive AV where
 | val (cs:List AC)
 | tup (ts:List (List AC))
 | FA
 | un
inductive Lq where
 | mine | FZ | kept
 deriving DecidableEq
inductive AB where
 | cells (q:Lq) (e:TypeId) (cs:List AC)
 | row (q:Lq) (e:TypeId) (t:Ty) (xs:List (T t))
 | Zg (e:TypeId) (t:Ty) (xs:List (T t))
 | map (xs:List (Int × Int))
 | used
 | gone
def EI:AB->Bool
 | .gone=>true
 | _=>false
def lv (hp:List AB) (j:Nat):Prop:= ∃b,hp[j]? =some b/\EI b=false
def CD {α β:Type} (R:α->β->Prop):List α->List β->Prop
 | [],[]=>True
 | a::l,b::m=>R a b/\CD R l m
 | _,_=>False
theorem CD.imp {α β:Type} {R S:α->β->Prop} (h : ∀a b,R a b->S a b) : ∀ {l:List α} {m:List β},CD R l m->CD S l m
 | [],[],_=>trivial
 | _::_,_::_,k=>⟨h _ _ k.1,CD.imp h k.2⟩
 | [],_::_,k=>k.elim
 | _::_,[],k=>k.elim
theorem CD.len {α β:Type} {R:α->β->Prop} : ∀ {l:List α} {m:List β},CD R l m->l.length=m.length
 | [],[],_=>rfl
 | _::_,_::_,k=>congrArg (· +1) (CD.len k.2)
 | [],_::_,k=>k.elim
 | _::_,[],k=>k.elim
theorem CD.get {α β:Type} {R:α->β->Prop} : ∀ {l:List α} {m:List β},CD R l m-> ∀ {i:Nat} {a:α},l[i]? =some a-> ∃b,m[i]? =some b/\R a b
 | [],[],_,i,a,h=>by simp at h
 | x::l,y::m,k,0,a,h=>⟨y,rfl,by simp at h;exact h▸k.1⟩
 | x::l,y::m,k,i+1,a,h=>by
   simp only[AOW] at h ⊢;exact CD.get k.2 h
 | [],_::_,k,_,_,_=>k.elim
 | _::_,[],k,_,_,_=>k.elim
theorem CD.take {α β:Type} {R:α->β->Prop} : ∀ {l:List α} {m:List β} (n:Nat),CD R l m->CD R (l.take n) (m.take n)
 | [],[],n,_=>by simp[CD]
 | _::_,_::_,0,_=>trivial
 | _::_,_::_,n+1,k=>⟨k.1,CD.take n k.2⟩
 | [],_::_,_,k=>k.elim
 | _::_,[],_,k=>k.elim
theorem CD.drop {α β:Type} {R:α->β->Prop} : ∀ {l:List α} {m:List β} (n:Nat),CD R l m->CD R (l.drop n) (m.drop n)
 | [],[],n,_=>by simp[CD]
 | _::_,_::_,0,k=>k
 | _::_,_::_,n+1,k=>CD.drop n k.2
 | [],_::_,_,k=>k.elim
 | _::_,[],_,k=>k.elim
theorem CD.app {α β:Type} {R:α->β->Prop} : ∀ {l l':List α} {m m':List β},CD R l m->CD R l' m'->CD R (l++l') (m++m')
 | [],_,[],_,_,h=>h
 | _::_,_,_::_,_,k,h=>⟨k.1,CD.app k.2 h⟩
 | [],_,_::_,_,k,_=>k.elim
 | _::_,_,[],_,k,_=>k.elim
theorem CD.set {α β:Type} {R:α->β->Prop} : ∀ {l:List α} {m:List β} {a:α} {b:β} (i:Nat),CD R l m->R a b->CD R (l.set i a) (m.set i b)
 | [],[],_,_,_,_,_=>by simp[CD]
 | _::_,_::_,_,_,0,k,h=>⟨h,k.2⟩
 | _::_,_::_,_,_,i+1,k,h=>⟨k.1,CD.set i k.2 h⟩
 | [],_::_,_,_,_,k,_=>k.elim
 | _::_,[],_,_,_,k,_=>k.elim
theorem CD.mem {α β:Type} {R:α->β->Prop} : ∀ {l:List α} {m:List β},CD R l m-> ∀b∈m,∃a∈l,R a b
 | [],[],_,_,h=>by simp at h
 | x::l,y::m,k,b,h=>by
   rcases ANM.1 h with rfl | h
   · exact⟨x,ANH,k.1⟩
   · obtain⟨a,ha,hr⟩:=CD.mem k.2 b h
     exact⟨a,ANG _ ha,hr⟩
 | [],_::_,k,_,_=>k.elim
 | _::_,[],k,_,_=>k.elim
def WO (U:Nat->Prop) (w:World) (p:World->Prop):Prop:= ∀W:World,w.heap.size<=W.heap.size->(∀k,k<w.heap.size-> ¬U k->W.heap[k]? =w.heap[k]?)->p W
structure Move (U:Nat->Prop) (w w':World) (U':Nat->Prop):Prop where
 size:w.heap.size<=w'.heap.size
 block : ∀k,k<w.heap.size-> ¬U k->w'.heap[k]? =w.heap[k]?
 less : ∀k,k<w.heap.size->U' k->U k
theorem WO.move {U U':Nat->Prop} {w w':World} {p:World->Prop} (h:WO U w p) (m:Move U w w' U'):WO U' w' p:=λW hs hb =>
 h W (AN6 m.size hs) (λk hk hU=>(hb k (AOB hk m.size) (λq=>hU (m.less k hk q))).trans (m.block k hk hU))
theorem WO.now {U:Nat->Prop} {w:World} {p:World->Prop} (h:WO U w p):p w:=h w (ANS _) (λ_ _ _=>rfl)
theorem WO.imp {U:Nat->Prop} {w:World} {p q:World->Prop} (h:WO U w p) (k : ∀W,p W->q W):WO U w q:=λW hs hb=>k W (h W hs hb)
theorem Move.refl {U:Nat->Prop} (w:World):Move U w w U:=⟨ANS _,λ_ _ _=>rfl,λ_ _ h=>h⟩
def Ow (w:World) (base:Nat) (e:TypeId) (sz:Nat) (v:Value) (n:Nat) (xs:List Value):Prop :=
 xs.length=n*sz/\((v= .slice none 0 0/\n=0)\/ ∃g cap cur,v= .slice (some ⟨g,0,none⟩) n cap/\base<=g/\w.heap[g]? =some (.cells cur e (0,0))/\n<=cap/\cap<=maxLen/\cap*sz<=cur.size/\cur.toList.take (n*sz)=xs)
theorem Ow.of {w:World} {base:Nat} {e:TypeId} {sz:Nat} {v:Value} {n:Nat} {xs:List Value} (h:w.ownsRow base e sz v n xs):Ow w base e sz v n xs:=by
 refine⟨h.1,h.2.imp id ?_⟩;rintro⟨g,cap,cur,h1,h2,h3,h4,h5,h6,h7⟩;exact⟨g,cap,cur,h1,h2,h3,h4,h5,by omega,h7⟩
theorem iE (w:World) (base:Nat) (e:TypeId) (sz:Nat):Ow w base e sz (.slice none 0 0) 0 []:= .of (World.ownsRow_nil w base e sz)
theorem Ow.move {w w1:World} {base:Nat} {e:TypeId} {sz n:Nat} {v:Value} {xs:List Value} (h:Ow w base e sz v n xs) (hm : ∀k,v.ownBlock=some k->w1.heap[k]? =w.heap[k]?):Ow w1 base e sz v n xs:=by
 refine⟨h.1,h.2.imp id ?_⟩;rintro⟨g,cap,cur,rfl,h2,h3,h4⟩;exact⟨g,cap,cur,rfl,h2,(hm g (by simp[Value.ownBlock])).trans h3,h4⟩
def C4:Value->Option Nat
 | .slice (some a) _ _=>some a.block
 | .pointer (some a)=>some a.block
 | .map (some b)=>some b
 | _=>none
def ref:Value->Value
 | .tuple us=>us.getD 0 undef
 | v=>v
def Kp (ν ν':Nat->Value) (j:Nat):Prop:=ν' j=ν j\/ ∃a n c,ν j= .slice a n c/\ν' j= .tuple #[ν j]
theorem Kp.same {ν ν':Nat->Value} {j:Nat} (h:ν' j=ν j):Kp ν ν' j:= .inl h
theorem Kp.ref {ν ν':Nat->Value} {j:Nat} (h:Kp ν ν' j):Gb.ref (ν' j)=Gb.ref (ν j):=by
 rcases h with h | ⟨a,n,c,h1,h2⟩
 · rw[h]
 · rw[h2,h1];rfl
theorem Kp.ptr {ν ν':Nat->Value} {j:Nat} {a:Option Addr} (h:Kp ν ν' j) (hp:ν j= .pointer a):ν' j= .pointer a:=by
 rcases h with h | ⟨a,n,c,h1,h2⟩
 · rw[h,hp]
 · rw[hp] at h1;cases h1
def Ny:List Value->Value
 | [x]=>x
 | vs=> .agg vs.toArray
def Rd (U:Nat->Prop) (w:World):(t:Ty)->T t->List Value->Prop
 | .int k,x,cs=>cs= [.int k x]
 | .bool,x,cs=>cs= [.bool x]
 | .str,x,cs=>cs= [.string x]
 | .row _ t,xs,cs=> ∃A c,cs= [.slice A (List.length xs) c]/\List.length xs<=c/\List.length xs<=9223372036854775807/\(0<List.length xs-> ∃ad:Addr,A=some ad/\ ∀(j:Nat) (p:T t),(xs:List (T t))[j]? =some p-> ∃c',Rd U w t p c'/\ ∀(i:Nat) (u:Value),c'[i]? =some u->WO U w (λW=>W.cell? (ad.add (j*t.size+i))=some u))
 | .cons a b,x,cs=> ∃c0 c1,cs=c0++c1/\Rd U w a x.1 c0/\Rd U w b x.2 c1
theorem Rd.move {U U':Nat->Prop} {w w':World} (m:Move U w w' U') : ∀ {t:Ty} {x:T t} {cs:List Value},Rd U w t x cs->Rd U' w' t x cs
 | .int _,_,_,h=>h
 | .bool,_,_,h=>h
 | .str,_,_,h=>h
 | .row _ t,xs,cs,⟨A,c,h1,h2,h3,h4⟩=>⟨A,c,h1,h2,h3,λhn=>by
    obtain⟨ad,e,hc⟩:=h4 hn;refine⟨ad,e,λj p hp=> ?_⟩;obtain⟨c',q1,q2⟩:=hc j p hp;exact⟨c',Rd.move m q1,λi u hu=>(q2 i u hu).move m⟩⟩
 | .cons a b,x,cs,⟨c0,c1,h1,h2,h3⟩=>⟨c0,c1,h1,Rd.move m h2,Rd.move m h3⟩
theorem Rd.K {U:Nat->Prop} {w:World} : ∀ {t:Ty} {x:T t} {cs:List Value},Rd U w t x cs->(kd t).K w x cs
 | .int _,_,_,h=>h
 | .bool,_,_,h=>h
 | .str,_,_,h=>h
 | .row _ t,xs,cs,⟨A,c,h1,h2,h3,h4⟩=>⟨A,c,h1,h2,rfl,h3,λhn=>by
    obtain⟨ad,e,hc⟩:=h4 hn;refine⟨ad,e,λj p hp=> ?_⟩;obtain⟨c',q1,q2⟩:=hc j p hp;have hK:=Rd.K q1;exact⟨c',(kd t).Dr hK,hK,λi u hu=>by rw[Ey];exact(q2 i u hu).now⟩⟩
 | .cons a b,x,cs,⟨c0,c1,h1,h2,h3⟩=>⟨c0,c1,h1,Rd.K h2,Rd.K h3⟩
theorem Hf (g o i:Nat):(⟨g,o,none⟩:Addr).add i=⟨g,o+i,none⟩:=by
 unfold Addr.add;split
 · rename_i h;subst h;rfl
 · rfl
structure St extends World where
 io:List Nat
 fx:List (Nat × Value)
def KQ (s:St):Lq->Nat->Prop
 | .mine,g=>s.heap.size<=g
 | _,g=>s.heap.size<=g\/g∈s.io
def bs (s:St):Lq->Nat
 | .mine=>s.heap.size
 | _=>0
structure Since (s:St) (w:World):Prop where
 os:w.os=s.os
 tape:w.tape=s.tape
 output:w.output=s.output
 size:s.heap.size<=w.heap.size
 block : ∀k,k<s.heap.size->k ∉ s.io->w.heap[k]? =s.heap[k]?
theorem Since.step {s:St} {w w':World} (h:Since s w) (k:Below w.heap.size w w'):Since s w' :=
 ⟨k.os.trans h.os,k.tape.trans h.tape,k.output.trans h.output,AN6 h.size k.size,λi hi XS=>(k.block i (AOB hi h.size)).trans (h.block i hi XS)⟩
theorem KQ.ne {s:St} {q:Lq} {g k:Nat} (h:KQ s q g) (hk:k<s.heap.size) (XS:k ∉ s.io):k≠g:=by
 rintro rfl;cases q with
 | mine=>exact absurd hk (Nat.not_lt.2 h)
 | FZ=>exact h.elim (λz=>absurd hk (Nat.not_lt.2 z)) XS
 | kept=>exact h.elim (λz=>absurd hk (Nat.not_lt.2 z)) XS
theorem KQ.any {s:St} {q:Lq} {g:Nat} (h:KQ s q g):s.heap.size<=g\/g∈s.io:=by
 cases q with
 | mine=>exact .inl h
 | FZ=>exact h
 | kept=>exact h
theorem KQ.new {s:St} {q:Lq} {g:Nat} (h:s.heap.size<=g):KQ s q g:=by
 cases q with
 | mine=>exact h
 | FZ=>exact .inl h
 | kept=>exact .inl h
theorem UZ {s:St} {q:Lq} {g:Nat} (h:KQ s q g):bs s q<=g:=by
 cases q with
 | mine=>exact h
 | FZ=>exact APm _
 | kept=>exact APm _
theorem AEk {s:St} {q:Lq} {g:Nat} (h:s.heap.size<=g):bs s q<=g:=UZ (KQ.new h)
section
variable (U0:Nat->Prop) (ν:Nat->Value) (L:Nat->Prop) (s:St) (w:World)
def Un (k:Nat):Prop:=U0 k\/ ∃j,L j/\C4 (ν j)=some k
def CW:AC->Value->Prop
 | .ro t x,v=>t.size=1/\Rd (Un U0 ν L) w t x [v]
 | .Bo,v=>v= .slice none 0 0
 | .Li,v=>v= .pointer none
 | .own j,v=>L j/\v=ref (ν j)
 | .ptr j o,v=>L j/\ ∃g,ν j= .pointer (some ⟨g,0,none⟩)/\v= .pointer (some ⟨g,o,none⟩)
 | .Hg j,v=>L j/\ ∃g n c,ref (ν j)= .slice (some ⟨g,0,none⟩) n c/\v= .pointer (some ⟨g,0,none⟩)
 | .qU j i o sz,v=>L j/\ ∃g n c,ref (ν j)= .slice (some ⟨g,0,none⟩) n c/\(0<=i/\i.toNat<n)/\v= .pointer (some ⟨g,i.toNat*sz+o,none⟩)
 | .rel t x,v=> ∃ad cs,v= .pointer (some ad)/\Rd (Un U0 ν L) w t x cs/\ ∀i u,cs[i]? =some u->WO (Un U0 ν L) w (λW=>W.cell? (ad.add i)=some u)
 | .FA,v=>v.oneCell'=true
def Fa:AV->Value->Prop
 | .val cs,v=> ∃vs,v=Ny vs/\CD (CW U0 ν L w) cs vs
 | .tup ts,v=> ∃us:List Value,v= .tuple us.toArray/\CD (λcs u=> ∃vs,u=Ny vs/\CD (CW U0 ν L w) cs vs) ts us
 | .FA,_=>True
 | .un,v=>v=undef
def SN (j:Nat):AB->Prop
 | .cells q e cs=> ∃g vs,ν j= .pointer (some ⟨g,0,none⟩)/\KQ s q g/\w.heap[g]? =some (.cells vs.toArray e (0,0))/\CD (CW U0 ν L w) cs vs
 | .row q e t xs=>(∃inner,Ow w (bs s q) e (kd t).sz (ν j) xs.length inner/\Bn (λx c=>Rd (Un U0 ν L) w t x c) (kd t).sz xs inner)/\ ∀k,C4 (ν j)=some k->KQ s q k
 | .Zg e t xs=> ∃v,ν j= .tuple #[v]/\Rd (Un U0 ν L) w (.row e t) xs [v]
 | .map xs=> ∃g es c,ν j= .map (some g)/\s.heap.size<=g/\w.heap[g]? =some (.map es c)/\es.toList.map (λe=>(e.key,e.val))=xs.map λp=>(Value.int .i64 p.1,Value.int .i64 p.2)
 | .used=> ∃v,ν j= .tuple #[v]/\v.oneCell'=true
 | .gone=>False
end
def P0:AB->Bool
 | .cells .kept _ _ | .row .kept _ _ _=>true
 | _=>false
def yd (s:St) (ν:Nat->Value) (hp:List AB):Prop:= ∀p∈s.fx,ν p.1=p.2/\ ∃b,hp[p.1]? =some b/\P0 b=true
structure Inv (U0:Nat->Prop) (ν:Nat->Value) (tm:List AV) (hp:List AB) (w0:St) (a:Act) (w:World):Prop where
 size:a.tmps.size=tm.length
 tm : ∀i x,tm[i]? =some x->Fa U0 ν (lv hp) w x (a.tmps.getD i undef)
 mem : ∀j b,hp[j]? =some b->EI b=false->SN U0 ν (lv hp) w0 w j b
 qV : ∀i j,i≠j->lv hp i->lv hp j-> ∀k,C4 (ν i)=some k->C4 (ν j)≠some k
 fr:Since w0 w
 fx:yd w0 ν hp
 defers:a.defers= []
section
variable {U0:Nat->Prop} {ν ν':Nat->Value} {L L':Nat->Prop} {w w':World}
theorem CW.move (m:Move (Un U0 ν L) w w' (Un U0 ν' L')) (hL : ∀j,L j->L' j/\Kp ν ν' j) : ∀ {c:AC} {v:Value},CW U0 ν L w c v->CW U0 ν' L' w' c v
 | .ro t x,v,h=>⟨h.1,h.2.move m⟩
 | .Bo,v,h=>h
 | .Li,v,h=>h
 | .own j,v,h=>⟨(hL j h.1).1,h.2.trans (hL j h.1).2.ref.symm⟩
 | .ptr j o,v,⟨hl,g,h1,h2⟩=>⟨(hL j hl).1,g,(hL j hl).2.ptr h1,h2⟩
 | .Hg j,v,⟨hl,g,n,c,h1,h2⟩=>⟨(hL j hl).1,g,n,c,(hL j hl).2.ref.trans h1,h2⟩
 | .qU j i o sz,v,⟨hl,g,n,c,h1,h2⟩=>⟨(hL j hl).1,g,n,c,(hL j hl).2.ref.trans h1,h2⟩
 | .rel t x,v,⟨ad,cs,h1,h2,h3⟩=>⟨ad,cs,h1,h2.move m,λi u hu=>(h3 i u hu).move m⟩
 | .FA,v,h=>h
theorem Fa.move (m:Move (Un U0 ν L) w w' (Un U0 ν' L')) (hL : ∀j,L j->L' j/\Kp ν ν' j) : ∀ {x:AV} {v:Value},Fa U0 ν L w x v->Fa U0 ν' L' w' x v
 | .val cs,v,⟨vs,h1,h2⟩=>⟨vs,h1,h2.imp λ_ _ h=>CW.move m hL h⟩
 | .tup ts,v,⟨us,h1,h2⟩=>⟨us,h1,h2.imp λ_ _ ⟨vs,q1,q2⟩=>⟨vs,q1,q2.imp λ_ _ h=>CW.move m hL h⟩⟩
 | .FA,_,_=>trivial
 | .un,_,h=>h
theorem SN.move {s:St} {j:Nat} (m:Move (Un U0 ν L) w w' (Un U0 ν' L')) (hL : ∀j,L j->L' j/\Kp ν ν' j) (hj:ν' j=ν j) (hk : ∀k,C4 (ν j)=some k->w'.heap[k]? =w.heap[k]?) : ∀ {b:AB},SN U0 ν L s w j b->SN U0 ν' L' s w' j b
 | .cells q e cs,⟨g,vs,h1,h2,h3,h4⟩=>⟨g,vs,hj.trans h1,h2,(hk g (by rw[h1];rfl)).trans h3,h4.imp λ_ _ h=>CW.move m hL h⟩
 | .row q e t xs,⟨⟨inner,h1,h2⟩,h3⟩=>⟨⟨inner,by
    rw[hj];refine Ow.move h1 (λk q=>hk k ?_);cases hv:ν j with
    | slice a n c=>rw[hv] at q;cases a with
      | none=>simp[Value.ownBlock] at q
      | some a=>simpa[Value.ownBlock,C4] using q
    | _=>rw[hv] at q;simp[Value.ownBlock] at q,h2.Gh λ_ _ h=>h.move m⟩,λk hk=>h3 k (hj▸hk)⟩
 | .Zg e t xs,⟨v,h1,h2⟩=>⟨v,hj.trans h1,h2.move m⟩
 | .map xs,⟨g,es,c,h1,h2,h3,h4⟩=>⟨g,es,c,hj.trans h1,h2,(hk g (by rw[h1];rfl)).trans h3,h4⟩
 | .used,⟨v,h1,h2⟩=>⟨v,hj.trans h1,h2⟩
 | .gone,h=>h
theorem SN.LI {U:Nat->Prop} {s:St} {j:Nat} {q:Lq} {e:TypeId} {t:Ty} {xs:List (T t)} (h:SN U0 ν L s w j (.row q e t xs)) (hU : ∀k,k<w.heap.size->U k->Un U0 ν L k/\C4 (ν j)≠some k):Rd U w (.row e t) xs [ν j]/\ ∃a c,ν j= .slice a xs.length c:=by
 obtain⟨⟨inner,h1,h2⟩,_⟩:=h;have mv:Move (Un U0 ν L) w w U:=⟨ANS _,λ_ _ _=>rfl,λk hk hu=>(hU k hk hu).1⟩;rcases h1.2 with⟨e1,e2⟩ | ⟨g,cap,cur,e1,hb,hg,hc,hm,hs,ht⟩
 · rw[e1]
   exact⟨⟨none,0,by rw[e2],by omega,by omega,λhn=>by omega⟩,none,0,by rw[e2]⟩
 · rw[e1]
   refine⟨⟨_,cap,rfl,hc,by unfold maxLen at hm;omega,λ_=>⟨_,rfl,λq p hp=>⟨_,(h2.2 q p hp).move mv,λi u hu W hs2 l6=> ?_⟩⟩⟩,_,_,rfl⟩;have hgl:g<w.heap.size:=ZU hg;have hW:W.heap[g]? =some (.cells cur e (0,0)):=by
    rw[l6 g hgl (λhu=>(hU g hgl hu).2 (by rw[e1];rfl))];exact hg
   show W.cell? ((⟨g,0,none⟩:Addr).add (q*t.size+i))=some u;rw[ANg] at hu;split at hu
   · rw[ANj,Ey,<-ht,ANg] at hu
     split at hu
     · rw[Hf,Ik hW,APD]
       simpa using hu
     · cases hu
   · cases hu
end
end
section
inductive TK where
 | AB4 | bool | str | ptr | map (k e:TypeId) | int (k:IntKind) | slice (e:TypeId) | struct (fs:List (Nat × Nat)) | arr (n:Nat) (e:TypeId)
structure TI where
 size:Nat
 bytes:Nat
 zero:List AC
 kind:TK
 ty:Option Ty
 cmp:List Ty
def zc:Value->AC->Bool
 | .int k n, .ro (.int k') x=>(k==k')&&n==(x:Int)
 | .bool b, .ro .bool x=>b==(x:Bool)
 | .string s, .ro .str x=>s.data.toList==(x:ByteArray).data.toList
 | .slice none 0 0, .Bo=>true
 | .pointer none, .Li=>true
 | .map none, .FA=>true
 | _,_=>false
def v5:List Value->List AC->Bool
 | [],[]=>true
 | v::vs,c::cs=>zc v c&&v5 vs cs
 | _,_=>false
def JI (P:Program):TypeDesc->TK->Bool
 | .int k, .int k'=>k==k'
 | .bool, .bool | .string, .str | .pointer _, .ptr=>true
 | .slice e, .slice e'=>e==e'
 | .map k e, .map k' e'=>k==k'&&e==e'
 | .struct fs, .struct gs=>fs.toList.map (λf=>(f.offset,((P.info? f.type).map (·.size)).getD 0))==gs
 | .array n e, .arr n' e'=>n==n'&&e==e'
 | .slice _, .AB4 | .struct _, .AB4 | .array _ _, .AB4=>false
 | _, .AB4=>true
 | _,_=>false
def Ye:TypeDesc->Bool
 | .struct _ | .array _ _=>true
 | _=>false
def tiB (P:Program) (t:TypeId) (i:TI):Bool :=
 match P.info? t,P.underlying t with
 | some f,some d=>f.size==i.size&&f.bytes==i.bytes&&(match f.zero with
    | some (.agg cs)=>v5 cs.toList i.zero&&i.zero.length !=1
    | some v=>v5 [v] i.zero
    | none=>false)&&JI P d i.kind&&(Ye d==(i.size !=1))&&i.zero.length==i.size
 | _,_=>false
def ec (P:Program):Nat->List Ty->List Field->Bool
 | _,[],[]=>true
 | n, t :: ts, f :: fs => f.offset == n && f.name != "_" && (match t, P.underlying f.type with
    | .int k,some (.int k')=>k==k'
    | .bool,some .bool=>true
    | _,_=>false)&&ec P (n+1) ts fs
 | _,_,_=>false
def eqB (P:Program) (t:TypeId) (ts:List Ty):Bool:=match P.underlying t with
 | some (.struct fs)=>ec P 0 ts fs.toList&& !(P.stoodInHeld t)&& !(P.eqGuardType P.depth t)
 | _=>false
abbrev JE:=List (TypeId × TI)
def JE.ok (P:Program) (Θ:JE):Bool:=Θ.all λx=>tiB P x.1 x.2&&(x.2.cmp.isEmpty || eqB P x.1 x.2.cmp)
def ti:JE->TypeId->Option TI
 | [],_=>none
 | (u,i)::Θ,t=>if t=u then some i else ti Θ t
theorem ADd {P:Program} {t:TypeId} {i:TI} : ∀ {Θ:JE},Θ.ok P=true->ti Θ t=some i->tiB P t i=true
 | [],_,h=>by simp[ti] at h
 | (u,j)::Θ,hk,h=>by
   simp only[JE.ok,APQ,ANQ] at hk;unfold ti at h;split at h
   · rename_i e;injection h with h;subst h;subst e;exact hk.1.1
   · exact ADd (Θ:=Θ) hk.2 h
theorem yf {P:Program} {t:TypeId} {i:TI} (hc:i.cmp.isEmpty=false) : ∀ {Θ:JE},Θ.ok P=true->ti Θ t=some i->eqB P t i.cmp=true
 | [],_,h=>by simp[ti] at h
 | (u,j)::Θ,hk,h=>by
   simp only[JE.ok,APQ,ANQ] at hk;unfold ti at h;split at h
   · rename_i e
     injection h with h;subst h;subst e;have:=hk.1.2;rw[hc] at this;simpa using this
   · exact yf hc (Θ:=Θ) hk.2 h
theorem yg {P:Program} {t:TypeId} {i:TI} (h:tiB P t i=true) : ∃f d,P.info? t=some f/\P.underlying t=some d/\f.size=i.size/\f.bytes=i.bytes/\JI P d i.kind=true/\Ye d=(i.size !=1)/\i.zero.length=i.size/\ ∃z:List Value,f.zero=some (Ny z)/\v5 z i.zero=true:=by
 unfold tiB at h;cases hf:P.info? t with
 | none=>simp[hf] at h
 | some f =>
   cases hd:P.underlying t with
   | none=>simp[hf,hd] at h
   | some d =>
     simp only[hf,hd,ANQ,beq_iff_eq] at h;obtain⟨⟨⟨⟨⟨h1,h2⟩,h3⟩,h4⟩,h5⟩,h6⟩:=h;refine⟨f,d,rfl,rfl,h1,h2,h4,h5,h6, ?_⟩;cases hz:f.zero with
     | none=>simp[hz] at h3
     | some v =>
       cases v with
       | agg cs =>
         simp only[hz,ANQ,bne_iff_ne] at h3;have hl : ∀ {vs:List Value} {cs:List AC},v5 vs cs=true->vs.length=cs.length:=by
          intro vs;induction vs with
          | nil=>intro cs k;cases cs<;>simp_all[v5]
          | cons v vs ih=>intro cs k;cases cs with
            | nil=>simp[v5] at k
            | cons c cs=>simp only[v5,ANQ] at k;simp[ih k.2]
         have:=hl h3.1;refine⟨cs.toList, ?_,h3.1⟩
         match hq:cs.toList with
         | []=>simp[Ny];cases cs;simp_all
         | [x]=>rw[hq] at this;simp at this;exact absurd this.symm h3.2
         | x::y::l=>simp[Ny];cases cs;simp_all
       | _=>simp only[hz] at h3;exact⟨[_],rfl,h3⟩
theorem AEl {U0:Nat->Prop} {ν:Nat->Value} {L:Nat->Prop} {w:World} {v:Value} {c:AC} (h:zc v c=true):CW U0 ν L w c v:=by
 unfold zc at h;split at h<;>try (exact absurd h (by decide))
 · rename_i k n k' x
   simp only[ANQ,beq_iff_eq] at h;obtain⟨h1,h2⟩:=h;exact⟨rfl,by show[Value.int k n]= [Value.int k' x];rw[h1,h2]⟩
 · rename_i b x
   rw[beq_iff_eq] at h;exact⟨rfl,by show[Value.bool b]= [Value.bool x];rw[h]⟩
 · rename_i s x
   rw[beq_iff_eq] at h;refine⟨rfl, ?_⟩;show[Value.string s]= [Value.string x];have:s=x:=by
    cases s with
    | mk a=>cases hx:x with
      | mk b=>rw[hx] at h;simp only at h;congr 1;exact AQm h
   rw[this]
 · rfl
 · rfl
 · rfl
theorem Kj {U0:Nat->Prop} {ν:Nat->Value} {L:Nat->Prop} {w:World} : ∀ {vs:List Value} {cs:List AC},v5 vs cs=true->CD (CW U0 ν L w) cs vs
 | [],[],_=>trivial
 | v::vs,c::cs,h=>by
   simp only[v5,ANQ] at h;exact⟨AEl h.1,Kj h.2⟩
 | [],_::_,h=>by simp[v5] at h
 | _::_,[],h=>by simp[v5] at h
theorem CW.one {U0:Nat->Prop} {ν:Nat->Value} {L:Nat->Prop} {w:World} (hB : ∀j,L j->(ref (ν j)).oneCell'=true) : ∀ {c:AC} {v:Value},CW U0 ν L w c v->v.oneCell'=true
 | .ro t x,v,h=>(kd t).Gc h.2.K v ANH
 | .Bo,v,h=>by rw[show v=_ from h];rfl
 | .Li,v,h=>by rw[show v=_ from h];rfl
 | .own j,v,h=>by rw[h.2];exact hB j h.1
 | .ptr j o,v,⟨_,g,_,h2⟩=>by rw[h2];rfl
 | .Hg j,v,⟨_,g,n,c,_,h2⟩=>by rw[h2];rfl
 | .qU j i o sz,v,⟨_,g,n,c,_,_,h2⟩=>by rw[h2];rfl
 | .rel t x,v,⟨ad,cs,h1,_⟩=>by rw[h1];rfl
 | .FA,v,h=>h
def lit:Value->AV
 | .int k n=> .val [.ro (.int k) n]
 | .bool b=> .val [.ro .bool b]
 | .string s=> .val [.ro .str s]
 | .slice none 0 0=> .val [.Bo]
 | .pointer none=> .val [.Li]
 | _=> .FA
def AQ (tm:List AV):Operand->AV
 | .tmp t=>tm.getD t .FA
 | .const v=>lit v
 | _=> .FA
def Lj (tm:List AV) (d:Option Tmp) (x:AV):List AV:=match d with
 | some t=>tm.set t x
 | none=>tm
theorem AB5 {U0:Nat->Prop} {ν:Nat->Value} {L:Nat->Prop} {w:World} (v:Value):Fa U0 ν L w (lit v) v:=by
 unfold lit;split
 · exact⟨[_],rfl,⟨rfl,rfl⟩,trivial⟩
 · exact⟨[_],rfl,⟨rfl,rfl⟩,trivial⟩
 · exact⟨[_],rfl,⟨rfl,rfl⟩,trivial⟩
 · exact⟨[_],rfl,rfl,trivial⟩
 · exact⟨[_],rfl,rfl,trivial⟩
 · trivial
section
variable {U0:Nat->Prop} {ν:Nat->Value} {tm:List AV} {hp:List AB} {w0:St} {w:World} {a:Act}
theorem Inv.AQ (I:Inv U0 ν tm hp w0 a w) (x:Operand):Fa U0 ν (lv hp) w (AQ tm x) (a.eval x):=by
 cases x with
 | tmp t =>
   show Fa U0 ν (lv hp) w (tm.getD t .FA) (a.tmps.getD t undef);rw[ANJ];cases h:tm[t]? with
   | none=>trivial
   | some y=>exact I.tm t y h
 | const v=>exact AB5 v
 | global g=>trivial
 | func f=>trivial
theorem Inv.iF (I:Inv U0 ν tm hp w0 a w) : ∀j,lv hp j->(ref (ν j)).oneCell'=true:=by
 rintro j ⟨b,hb,hg⟩;have hr:=I.mem j b hb hg;cases b with
 | cells q e cs=>obtain⟨g,vs,h1,_⟩:=hr;rw[h1];rfl
 | row q e t xs =>
   obtain⟨⟨inner,⟨_,h | ⟨g,cap,cur,h,_⟩⟩,_⟩,_⟩:=hr
   · rw[h.1];rfl
   · rw[h];rfl
 | Zg e t xs =>
   obtain⟨v,h1,A,c,h2,_⟩:=hr;rw[h1,(AOM h2).1];rfl
 | map xs=>obtain⟨g,es,c,h1,_⟩:=hr;rw[h1];rfl
 | used=>obtain⟨v,h1,h2⟩:=hr;rw[h1];exact h2
 | gone=>exact hr.elim
theorem Inv.put (I:Inv U0 ν tm hp w0 a w) {ν':Nat->Value} {B0:List AB} {w':World} (d:Option Tmp) (x:AV) (v:Value)
 (m:Move (Un U0 ν (lv hp)) w w' (Un U0 ν' (lv B0))) (hL : ∀j,lv hp j->lv B0 j/\Kp ν ν' j) (hx:Fa U0 ν' (lv B0) w' x v)
 (hB : ∀j b,B0[j]? =some b->EI b=false->SN U0 ν' (lv B0) w0 w' j b) (hD : ∀i j,i≠j->lv B0 i->lv B0 j-> ∀k,C4 (ν' i)=some k->C4 (ν' j)≠some k)
 (hF:Since w0 w') (hX:yd w0 ν' B0):Inv U0 ν' (Lj tm d x) B0 w0 (a.put d v) w':=by
 cases d with
 | none=>exact⟨I.size,λi y hy=>Fa.move m hL (I.tm i y hy),hB,hD,hF,hX,I.defers⟩
 | some t =>
   refine⟨by simp[Act.put,Lj,I.size],λi y hy=> ?_,hB,hD,hF,hX,I.defers⟩;simp only[Lj,APS] at hy;by_cases yD:t=i
   · subst yD
     by_cases hl:t<tm.length
     · rw[if_pos rfl,if_pos hl] at hy
       injection hy with hy;subst hy;have:(a.put (some t) v).tmps.getD t undef=v:=by
        have hs:t<a.tmps.size:=(by rw[I.size];exact hl);simp[Act.put,ANz,hs]
       rw[this];exact hx
     · rw[if_pos rfl,if_neg hl] at hy
       cases hy
   · rw[if_neg yD] at hy
     have:(a.put (some t) v).tmps.getD i undef=a.tmps.getD i undef:=by
      simp[Act.put,ANz,yD]
     rw[this];exact Fa.move m hL (I.tm i y hy)
theorem Rb {L:Nat->Prop} {ν:Nat->Value} : ∀j,L j->L j/\Kp ν ν j:=λ_ h=>⟨h, .inl rfl⟩
theorem Inv.P3 (I:Inv U0 ν tm hp w0 a w) (d:Option Tmp) {x:AV} {v:Value} (hx:Fa U0 ν (lv hp) w x v):Inv U0 ν (Lj tm d x) hp w0 (a.put d v) w :=
 I.put d x v (Move.refl w) Rb hx I.mem I.qV I.fr I.fx
theorem Inv.go (I:Inv U0 ν tm hp w0 a w) {w':World} (d:Option Tmp) (x:AV) (v:Value) (hs:w.heap.size<=w'.heap.size) (hb : ∀k,k<w.heap.size->w'.heap[k]? =w.heap[k]?) (hlt : ∀j,lv hp j-> ∀k,C4 (ν j)=some k->k<w.heap.size)
 (hx:Fa U0 ν (lv hp) w' x v) (hF:Since w0 w'):Inv U0 ν (Lj tm d x) hp w0 (a.put d v) w' :=
 have m:Move (Un U0 ν (lv hp)) w w' (Un U0 ν (lv hp)):=⟨hs,λk hk _=>hb k hk,λ_ _ h=>h⟩
 I.put d x v m Rb hx (λj b h1 h2=>(I.mem j b h1 h2).move m Rb rfl λk hk=>hb k (hlt j ⟨b,h1,h2⟩ k hk)) I.qV hF I.fx
theorem qw {w:World} {g:Nat} {o:Obj} (h:w.heap[g]? =some o):g<w.heap.size:=(AOF.1 h).1
theorem Inv.lt (I:Inv U0 ν tm hp w0 a w) {j g:Nat} (hj:lv hp j) (hb:C4 (ν j)=some g):g<w.heap.size/\(w0.heap.size<=g\/g∈w0.io):=by
 obtain⟨b,h1,hg⟩:=hj;have h2:=I.mem j b h1 hg;cases b with
 | cells q e cs =>
   obtain⟨g',vs,q1,q2,q3,_⟩:=h2;rw[q1] at hb;injection hb with hb;subst hb;exact⟨ZU q3,q2.any⟩
 | row q e t xs =>
   obtain⟨⟨inner,h,_⟩,h3⟩:=h2;have h3:=h3 g hb;rcases h.2 with⟨q,_⟩ | ⟨g',cap,cur,q,q2,q3,_⟩
   · rw[q] at hb;cases hb
   · rw[q] at hb
     injection hb with hb;subst hb;exact⟨ZU q3,h3.any⟩
 | Zg e t xs=>obtain⟨v,q,_⟩:=h2;rw[q] at hb;cases hb
 | map xs =>
   obtain⟨g',es,c,q1,q2,q3,_⟩:=h2;rw[q1] at hb;injection hb with hb;subst hb;exact⟨qw q3, .inl q2⟩
 | used=>obtain⟨v,q,_⟩:=h2;rw[q] at hb;cases hb
 | gone=>exact h2.elim
theorem Inv.Rc (I:Inv U0 ν tm hp w0 a w) {j g:Nat} {e:TypeId} {t:Ty} {xs:List (T t)} (hj:hp[j]? =some (.row .mine e t xs)) (hb:C4 (ν j)=some g):w0.heap.size<=g:=(I.mem j _ hj rfl).2 g hb
theorem yd.yh {s:St} {ν ν':Nat->Value} {hp B0:List AB} (h:yd s ν hp) (hs : ∀j b,hp[j]? =some b->P0 b=true->ν' j=ν j/\ ∃b',B0[j]? =some b'/\P0 b'=true):yd s ν' B0:=λp hp=>by
 obtain⟨h1,b,h2,h3⟩:=h p hp;obtain⟨q1,q2⟩:=hs p.1 b h2 h3;exact⟨q1.trans h1,q2⟩
def upd (ν:Nat->Value) (t:Nat) (v:Value) (j:Nat):Value:=if j=t then v else ν j
theorem BQ {ν:Nat->Value} {t:Nat} {v:Value} :upd ν t v t=v:=if_pos rfl
theorem Fz {ν:Nat->Value} {t j:Nat} {v:Value} (h:j≠t):upd ν t v j=ν j:=if_neg h
theorem yj {hp:List AB} {j:Nat} {b:AB} (hj:lv hp j) (hb:EI b=false):lv (hp.set j b)=lv hp:=by
 obtain⟨b',h1,h2⟩:=hj;have hlt:=(ANN.1 h1).1
 funext i
 apply propext;unfold lv;by_cases h:j=i
 · subst h
   exact⟨λ_=>⟨b',h1,h2⟩,λ_=>⟨b,by simp[hlt],hb⟩⟩
 · rw[ANf h]
theorem Inv.AB6 (I:Inv U0 ν tm hp w0 a w) (hU : ∀k,U0 k->k<w0.heap.size) {j:Nat} {e:TypeId} {t:Ty} {xs:List (T t)} (hb:hp[j]? =some (.row .mine e t xs)):Inv U0 (upd ν j (.tuple #[ν j])) tm (hp.set j (.Zg e t xs)) w0 a w:=by
 have hj:lv hp j:=⟨_,hb,rfl⟩;have el:=yj hj (b:= .Zg e t xs) rfl;have hlt:=(ANN.1 hb).1;have hR:=I.mem j _ hb rfl;obtain⟨_,a',c',dQ⟩:=hR.LI (U:=λ_=>False) (λ_ _ h=>h.elim);have hK : ∀i,lv hp i->lv (hp.set j (.Zg e t xs)) i/\Kp ν (upd ν j (.tuple #[ν j])) i:=λi hi=>⟨el▸hi,by
  by_cases h:i=j
  · subst h;exact .inr ⟨a',_,c',dQ,BQ⟩
  · exact .inl (Fz h)⟩
 have hbk : ∀i k,C4 (upd ν j (.tuple #[ν j]) i)=some k->i≠j/\C4 (ν i)=some k:=λi k h=>by
  by_cases q:i=j
  · subst q;rw[BQ] at h;cases h
  · rw[Fz q] at h;exact⟨q,h⟩
 have hun : ∀k,Un U0 (upd ν j (.tuple #[ν j])) (lv (hp.set j (.Zg e t xs))) k->Un U0 ν (lv hp) k:=λk h=>by
  rcases h with h | ⟨i,hi,h⟩
  · exact .inl h
  · exact .inr ⟨i,el▸hi,(hbk i k h).2⟩
 have m:Move (Un U0 ν (lv hp)) w w (Un U0 (upd ν j (.tuple #[ν j])) (lv (hp.set j (.Zg e t xs)))):=⟨ANS _,λ_ _ _=>rfl,λk _ h=>hun k h⟩;have:=I.put (a:=a) (d:=none) (x:= .FA) (v:=undef) m hK trivial (λi b h1 h2=> ?_) (λi i' hne hi hi' k h1 h2=> ?_) I.fr (I.fx.yh λi b h1 h2=> ?_)
 · exact this
 · by_cases h:j=i
   · subst h
     rw[AN2 hlt] at h1;injection h1 with h1;subst h1;refine⟨ν j,BQ,(hR.LI λk hk hu=>⟨hun k hu,λZh=> ?_⟩).1⟩;rcases hu with hu | ⟨i,hi,hu⟩
     · have h1:=hU k hu
       have:=I.Rc hb Zh;omega
     · obtain⟨q1,q2⟩:=hbk i k hu
       exact I.qV i j q1 (el▸hi) hj k q2 Zh
   · rw[ANf h] at h1
     exact(I.mem i b h1 h2).move m hK (Fz (λq=>h q.symm)) (λ_ _=>rfl)
 · rw[el] at hi hi'
   exact I.qV i i' hne hi hi' k (hbk i k h1).2 (hbk i' k h2).2
 · have hne:i≠j:=by
    rintro rfl;rw[hb] at h1;injection h1 with h1;subst h1;cases h2
   exact⟨Fz hne,b,by rw[ANf (AQN hne)];exact h1,h2⟩
end
end
section
@[reducible] def TT:List Ty->Type
  | []=>Unit
  | t::ts=>T t × TT ts
structure AT where
 ps:List Ty
 rs:List Ty
 f:Nat->TT ps->Option (TT rs)
inductive FK where
 | ty (t:Ty)
 | row (keep:Bool) (e:TypeId) (t:Ty)
@[reducible] def FT:List FK->Type
  | []=>Unit
  | .ty t::l=>T t × FT l
  | .row _ _ t::l=>List (T t) × FT l
inductive PK where
 | ty (t:Ty)
 | st (e:TypeId) (fs:List FK)
 | KR (e:TypeId) (t:Ty)
@[reducible] def PT:List PK->Type
  | []=>Unit
  | .ty t::l=>T t × PT l
  | .st _ fs::l=>FT fs × PT l
  | .KR _ t::l=>List (T t) × PT l
@[reducible] def ET:List PK->Type
  | []=>Unit
  | .ty _::l=>ET l
  | .st _ fs::l=>FT fs × ET l
  | .KR _ t::l=>List (T t) × ET l
structure Dj where
 ps:List PK
 rs:List Ty
 f:Nat->PT ps->Option (TT rs × ET ps)
structure mQ where
 ps:List Ty
 e:TypeId
 t:Ty
 f:Nat->TT ps->Option (List (T t))
inductive NF where
 | ty (t:Ty) | nil
@[reducible] def NT:List NF->Type
  | []=>Unit
  | .ty t::l=>T t × NT l
  | .nil::l=>NT l
def yl:(fs:List NF)->NT fs
 | []=>()
 | .ty t::l=>(dflt t,yl l)
 | .nil::l=>yl l
structure Zi where
 ps:List Ty
 e:TypeId
 fs:List NF
 f:Nat->TT ps->Option (Bool × NT fs)
inductive FE where
 | pu (s:AT)
 | np (s:Zi)
 | io (s:Dj) (nm:List (Nat × Nat))
 | nw (s:mQ)
inductive Tree (R:Type):Type 1 where
 | non
 | done (r:R)
 | J2 (c:Prop) [d:Decidable c] (x y:Tree R)
 | dR {A:Type} (x:Option A) (f:A->Tree R)
def Tree.run {R:Type} :Tree R->Option R
 | .non=>none
 | .done r=>some r
 | @Tree.J2 _ c d x y=> @ite _ c d x.run y.run
 | .dR x f=>x.bind λa=>(f a).run
def ofO {R:Type} :Option R->Tree R
 | some r=> .done r
 | none=> .non
theorem uI {R:Type} (x:Option R):(ofO x).run=x:=by cases x<;>rfl
theorem Tree.Gd {R:Type} {r:R} (h:(Tree.non:Tree R).run=some r):False:=by cases h
theorem Tree.Ln {R:Type} {r:R} {c:Prop} [d:Decidable c] {x y:Tree R} (h:(Tree.J2 c x y).run=some r):(c/\x.run=some r)\/(¬c/\y.run=some r):=by
 have h:(if c then x.run else y.run)=some r:=h;split at h
 · rename_i hc;exact .inl ⟨hc,h⟩
 · rename_i hc;exact .inr ⟨hc,h⟩
theorem Tree.need {R:Type} {r:R} {c:Prop} [d:Decidable c] {x:Tree R} (h:(Tree.J2 c x .non).run=some r):c/\x.run=some r:=(Tree.Ln h).resolve_right λq=>Tree.Gd q.2
theorem Tree.Rf {R A:Type} {r:R} {x:Option A} {f:A->Tree R} (h:(Tree.dR x f).run=some r) : ∃a,x=some a/\(f a).run=some r:=AOn.1 h
structure HC where
 nw:Option AB
 ch:List (Nat × AB)
@[reducible] def H0:HC:=⟨none,[]⟩
def ownRow (hp:List AB) (j:Nat) (e:TypeId) (t:Ty):Option (List (T t)):=match hp[j]? with
 | some (.row .mine e' t' xs)=>if h:e'=e/\t'=t then h.2▸some xs else none
 | some (.Zg e' t' xs)=>if h:e'=e/\t'=t then h.2▸some xs else none
 | _=>none
def Ee (hp:List AB):(t:Ty)->List AC->Option (T t × List AC)
 | .cons a b,cs=>match Ee hp a cs with
   | some (x,cs')=>match Ee hp b cs' with
     | some (y,AJL)=>some ((x,y),AJL)
     | none=>none
   | none=>none
 | .row _ _, .Bo::cs=>some ([],cs)
 | .row e t, .own j::cs=>match ownRow hp j e t with
   | some xs=>some (xs,cs)
   | none=>none
 | t, .ro t' x::cs=>if h:t'=t then h▸some (x,cs) else none
 | _,_=>none
def Kb (hp:List AB):List AC->List (Nat × AB)
 | []=> []
 | .own j::cs=>match hp[j]? with
   | some (.row .mine e t xs)=>(j, .Zg e t xs)::Kb hp cs
   | _=>Kb hp cs
 | _::cs=>Kb hp cs
def JJ:List AC->Bool
 | []=>true
 | .own _::_=>false
 | _::cs=>JJ cs
def JF:List (Nat × AB)->Nat->Bool
 | [],_=>false
 | (i,_)::l,j=>i==j || JF l j
def WQ:(t:Ty)->T t->List AC
 | .cons a b,x=>WQ a x.1++WQ b x.2
 | .int k,x=> [.ro (.int k) x]
 | .bool,x=> [.ro .bool x]
 | .str,x=> [.ro .str x]
 | .row e t,x=> [.ro (.row e t) x]
def part:(t:Ty)->T t->(off sz:Nat)->Option AC
 | .cons a b,x,off,sz =>
   if off=0/\sz=(Ty.cons a b).size then some (.rel (.cons a b) x)
   else if off<a.size then part a x.1 off sz else part b x.2 (off-a.size) sz
 | t,x,off,sz=>if off=0/\sz=1 then some (.rel t x) else none
def ncs:(fs:List NF)->NT fs->List AC
 | [],_=> []
 | .ty t::l,x=>WQ t x.1++ncs l x.2
 | .nil::l,x=> .Bo::ncs l x
def rdN (hp:List AB):(fs:List NF)->List AC->Option (NT fs)
 | [],[]=>some ()
 | .ty t::l,cs=>match Ee hp t cs with
   | some (x,cs')=>match rdN hp l cs' with
     | some y=>some (x,y)
     | none=>none
   | none=>none
 | .nil::l, .Bo::cs=>rdN hp l cs
 | _,_=>none
def args (hp:List AB) (tm:List AV):(ps:List Ty)->List Operand->Option (TT ps)
 | [],[]=>some ()
 | t::ts,o::os=>match AQ tm o with
   | .val cs=>match Ee hp t cs with
     | some (x,[])=>match args hp tm ts os with
       | some xs=>some (x,xs)
       | none=>none
     | _=>none
   | _=>none
 | _,_=>none
def cellsOf:AV->List AC
 | .val cs=>cs
 | _=> []
def HZ (hp:List AB) (tm:List AV):List Operand->List (Nat × AB)
 | []=> []
 | o::os=>Kb hp (cellsOf (AQ tm o))++HZ hp tm os
def ym:(rs:List Ty)->TT rs->List (List AC)
 | [],_=> []
 | t::ts,(x,y)=>WQ t x::ym ts y
def qz (rs:List Ty) (x:TT rs):AV:=match ym rs x with
 | [cs]=> .val cs
 | ts=> .tup ts
def Ua:Ty->Bool
 | .row _ _=>false
 | .cons a b=>Ua a&&Ua b
 | _=>true
def iv (k:IntKind) (n:Int):AV:= .val [.ro (.int k) n]
def wr:IntKind->Int->Int
 | .i64,n=>wrap64 n
 | k,n=>k.wrap n
theorem wr_eq (k:IntKind) (n:Int):wr k n=k.wrap n:=by
 cases k<;>first | rfl | exact(mJ n).symm
def bv (b:Bool):AV:= .val [.ro .bool b]
def J3:(t:Ty)->List AC->Option (List AC)
 | .cons a b,cs=>match J3 a cs with
   | some cs'=>J3 b cs'
   | none=>none
 | .row _ _, .Bo::cs=>some cs
 | .int k, .ro (.int k') x::cs=>if k'=k/\(x:Int)=0 then some cs else none
 | .bool, .ro .bool x::cs=>if(x:Bool)=false then some cs else none
 | .str, .ro .str x::cs=>if(x:ByteArray).data.toList.length=0 then some cs else none
 | _,_=>none
def iG (t:Ty) (cs:List AC):Bool:=match J3 t cs with
 | some []=>true
 | _=>false
theorem Zj {t:Ty} {cs:List AC} (h:iG t cs=true):J3 t cs=some []:=by
 unfold iG at h;split at h
 · assumption
 · cases h
section
universe u
variable {R:Type u} {A:Type}
def fC (c:AC) (k:AC->R):R:=match c with
 | .ro (.int q) x=>k (.ro (.int q) x)
 | .ro .bool x=>k (.ro .bool x)
 | .ro .str x=>k (.ro .str x)
 | .ro (.row e t) x=>k (.ro (.row e t) x)
 | .ro (.cons a b) x=>k (.ro (.cons a b) x)
 | .Bo=>k .Bo
 | .Li=>k .Li
 | .own j=>k (.own j)
 | .ptr j o=>k (.ptr j o)
 | .Hg j=>k (.Hg j)
 | .qU j i o z=>k (.qU j i o z)
 | .rel t x=>k (.rel t x)
 | .FA=>k .FA
theorem AGG (c:AC) (k:AC->R):fC c k=k c:=by
 cases c
 case ro t x=>cases t<;>rfl
 all_goals rfl
def fCs:List AC->(List AC->R)->R
 | [],k=>k []
 | c::cs,k=>fC c λc'=>fCs cs λcs'=>k (c'::cs')
theorem iH : ∀(cs:List AC) (k:List AC->R),fCs cs k=k cs
 | [],_=>rfl
 | c::cs,k=>by simp only[fCs,AGG,iH cs]
def fTs:List (List AC)->(List (List AC)->R)->R
 | [],k=>k []
 | c::cs,k=>fCs c λc'=>fTs cs λcs'=>k (c'::cs')
theorem yp : ∀(cs:List (List AC)) (k:List (List AC)->R),fTs cs k=k cs
 | [],_=>rfl
 | c::cs,k=>by simp only[fTs,iH,yp cs]
def fV (x:AV) (k:AV->R):R:=match x with
 | .val cs=>fCs cs λcs'=>k (.val cs')
 | .tup ts=>fTs ts λts'=>k (.tup ts')
 | .FA=>k .FA
 | .un=>k .un
theorem ADe (x:AV) (k:AV->R):fV x k=k x:=by cases x<;>simp only[fV,iH,yp]
def fB (b:AB) (k:AB->R):R:=match b with
 | .cells q e cs=>fCs cs λcs'=>k (.cells q e cs')
 | .row q e t xs=>k (.row q e t xs)
 | .Zg e t xs=>k (.Zg e t xs)
 | .map xs=>k (.map xs)
 | .used=>k .used
 | .gone=>k .gone
theorem yq (b:AB) (k:AB->R):fB b k=k b:=by cases b<;>simp only[fB,iH]
def v9:List A->Nat->A->(List A->R)->R
 | [],_,_,k=>k []
 | _::l,0,x,k=>k (x::l)
 | a::l,n+1,x,k=>v9 l n x λl'=>k (a::l')
theorem Y6 : ∀(l:List A) (n:Nat) (x:A) (k:List A->R),v9 l n x k=k (l.set n x)
 | [],_,_,_=>rfl
 | _::_,0,_,_=>rfl
 | a::l,n+1,x,k=>by simp only[v9,Y6 l n x,AO4]
def Ub:List A->A->(List A->R)->R
 | [],x,k=>k [x]
 | a::l,x,k=>Ub l x λl'=>k (a::l')
theorem mR : ∀(l:List A) (x:A) (k:List A->R),Ub l x k=k (l++ [x])
 | [],_,_=>rfl
 | a::l,x,k=>by simp only[Ub,mR l x,APb]
def fNs:List Nat->(List Nat->R)->R
 | [],k=>k []
 | a::l,k=>fNs l λl'=>k (a::l')
theorem yt : ∀(l:List Nat) (k:List Nat->R),fNs l k=k l
 | [],_=>rfl
 | a::l,k=>by simp only[fNs,yt l]
def fL:List AV->(List AV->R)->R
 | [],k=>k []
 | a::l,k=>fV a λa'=>fL l λl'=>k (a'::l')
theorem ef : ∀(l:List AV) (k:List AV->R),fL l k=k l
 | [],_=>rfl
 | a::l,k=>by simp only[fL,ADe,ef l]
def fH:List AB->(List AB->R)->R
 | [],k=>k []
 | a::l,k=>fB a λa'=>fH l λl'=>k (a'::l')
theorem eg : ∀(l:List AB) (k:List AB->R),fH l k=k l
 | [],_=>rfl
 | a::l,k=>by simp only[fH,yq,eg l]
def SP (tm:List AV) (d:Option Tmp) (x:AV) (k:List AV->R):R:=match d with
 | some t=>fV x λx'=>v9 tm t x' k
 | none=>k tm
theorem uJ (tm:List AV) (d:Option Tmp) (x:AV) (k:List AV->R):SP tm d x k=k (Lj tm d x):=by cases d<;>simp only[SP,ADe,Y6,Lj]
end
def DB:List (Nat × AB)->List AB->List AB
 | [],hp=>hp
 | (j,b)::l,hp=>(DB l hp).set j b
def N3 (d:Option Tmp) (hp:List AB) (δ:HC):List AB:=match δ.nw,d with
 | some b,some t=>(DB δ.ch hp).set t b
 | _,_=>DB δ.ch hp
universe u in
def wC {R:Type u} :List (Nat × AB)->List AB->(List AB->R)->R
 | [],hp,k=>k hp
 | (j,b)::l,hp,k=>wC l hp λB0=>fB b λb'=>v9 B0 j b' k
universe u in
theorem iI {R:Type u} : ∀(l:List (Nat × AB)) (hp:List AB) (k:List AB->R),wC l hp k=k (DB l hp)
 | [],_,_=>rfl
 | (j,b)::l,hp,k=>by simp only[wC,iI l hp,yq,Y6,DB]
universe u in
def XT {R:Type u} (d:Option Tmp) (hp:List AB) (δ:HC) (k:List AB->R):R:=match δ.nw,d with
 | some b,some t=>wC δ.ch hp λB0=>fB b λb'=>v9 B0 t b' k
 | _,_=>wC δ.ch hp k
universe u in
theorem mS {R:Type u} (d:Option Tmp) (hp:List AB) (δ:HC) (k:List AB->R):XT d hp δ k=k (N3 d hp δ):=by
 unfold XT N3;split<;>simp only[iI,yq,Y6]
def iJ (hp:List AB) (j:Nat):Bool:=match hp[j]? with
 | some _=>true
 | none=>false
def hok (d:Option Tmp) (hp:List AB) (δ:HC):Bool:=(match δ.nw,d with
 | some b,some t=>(match hp[t]? with
   | some .gone=>true
   | _=>false)&& !EI b
 | some _,none=>false
 | none,_=>true)&&δ.ch.all λp=>iJ hp p.1&& !EI p.2
section
variable {R:Type}
def q8 (op:BinOp) (k:IntKind) (x y:Int) (K:AV->Tree R):Tree R :=
 match op with
 | .add=>K (iv k (wr k (x+y)))
 | .sub=>K (iv k (wr k (x-y)))
 | .mul=>K (iv k (wr k (x*y)))
 | .quo=>Tree.J2 (y=0) .non (K (iv k (wr k (Int.tdiv x y))))
 | .rem=>Tree.J2 (y=0) .non (K (iv k (Int.tmod x y)))
 | .and=>K (iv k (Go.bits .and k x y))
 | .or=>K (iv k (Go.bits .or k x y))
 | .xor=>K (iv k (Go.bits .xor k x y))
 | .andNot=>K (iv k (Go.bits .andNot k x y))
 | .eql=>K (bv (x==y))
 | .neq=>K (bv (x !=y))
 | .lss=>K (bv (decide (x<y)))
 | .leq=>K (bv (decide (x<=y)))
 | .gtr=>K (bv (decide (y<x)))
 | .geq=>K (bv (decide (y<=x)))
 | _=> .non
def Zk (op:BinOp) (k:IntKind) (x y:Int) (K:AV->Tree R):Tree R :=
 match op with
 | .shl=>Tree.J2 (0<=y) (K (iv k (shl k x y))) .non
 | .shr=>Tree.J2 (0<=y) (K (iv k (shr k x y))) .non
 | _=> .non
def AB7:BinOp->Bool
 | .shl | .shr=>true
 | _=>false
def iK (op:BinOp) (x y:Bool) (K:AV->Tree R):Tree R :=
 match op with
 | .eql=>K (bv (x==y))
 | .neq=>K (bv (!(x==y)))
 | _=> .non
def q9 (op:BinOp) (x y:ByteArray) (K:AV->Tree R):Tree R :=
 match op with
 | .add=>Tree.J2 (x.size+y.size<=9223372036854775807) (K (.val [.ro .str (x++y)])) .non
 | .eql=>K (bv (x.toList==y.toList))
 | .neq=>K (bv (!(x.toList==y.toList)))
 | _=> .non
def P4 (op:BinOp) (b:Bool) (K:AV->Tree R):Tree R :=
 match op with
 | .eql=>K (bv b)
 | .neq=>K (bv (!b))
 | _=> .non
def Zl:List Ty->List AC->List AC->Option Bool
 | [],[],[]=>some true
 | .int k::ts, .ro (.int k1) m::l, .ro (.int k2) n::l'=>if k1=k/\k2=k then(match Zl ts l l' with
   | some r=>some (((m:Int)==(n:Int))&&r)
   | none=>none) else none
 | .bool::ts, .ro .bool m::l, .ro .bool n::l'=>match Zl ts l l' with
   | some r=>some (((m:Bool)==(n:Bool))&&r)
   | none=>none
 | _,_,_=>none
def Lo (place:Nat->Option (Nat × Nat)) (cs:List AC):List (Nat × AV)->Option (List AC)
 | []=>some cs
 | (i, .val xs)::rest=>match place i with
   | some (off,sz)=>if xs.length=sz/\off+sz<=cs.length then Lo place (cs.take off++xs++cs.drop (off+sz)) rest else none
   | none=>none
 | _=>none
def rows (hp:List AB) (t:Ty):Nat->List AC->Option (List (T t))
 | 0,[]=>some []
 | n+1,cs=>match Ee hp t cs with
   | some (x,cs')=>match rows hp t n cs' with
     | some xs=>some (x::xs)
     | none=>none
   | none=>none
 | _,_=>none
def Jo (hp:List AB) (e:TypeId) (t:Ty):AC->Option (List (Nat × AB) × Lq × List (T t))
 | .Bo=>some ([], .mine,[])
 | .own j=>match hp[j]? with
   | some (.row .mine e' t' xs)=>if h:e'=e/\t'=t then h.2▸some ([(j, .used)], .mine,xs) else none
   | some (.row .FZ e' t' xs)=>if h:e'=e/\t'=t then h.2▸some ([(j, .used)], .FZ,xs) else none
   | _=>none
 | _=>none
def Uc (hp:List AB) (e:TypeId) (t:Ty) (c:AC):Option (List (T t)):=match Ee hp (.row e t) [c] with
 | some (xs,[])=>some xs
 | _=>none
def eo (hp:List AB) (e:TypeId) (t:Ty) (c:AC):Option (List (T t)):=match c with
 | .own j=>match hp[j]? with
   | some (.row _ e' t' xs)=>if h:e'=e/\t'=t then h.2▸some xs else none
   | _=>Uc hp e t c
 | _=>Uc hp e t c
def JK (hp:List AB):(fs:List FK)->List AC->Option (FT fs)
 | [],[]=>some ()
 | .ty t::l,cs=>if JJ (cs.take t.size)=true then(match Ee hp t cs with
   | some (x,cs')=>match JK hp l cs' with
     | some y=>some (x,y)
     | none=>none
   | none=>none) else none
 | .row true e t::l, .own j::cs=>match hp[j]? with
   | some (.row _ e' t' xs)=>if h:e'=e/\t'=t then(match JK hp l cs with
     | some y=>h.2▸some (xs,y)
     | none=>none) else none
   | _=>none
 | .row false e t::l, .Bo::cs=>match JK hp l cs with
   | some y=>some ([],y)
   | none=>none
 | .row false e t::l, .own j::cs=>match hp[j]? with
   | some (.row .mine e' t' xs)=>if h:e'=e/\t'=t then(match JK hp l cs with
     | some y=>h.2▸some (xs,y)
     | none=>none) else none
   | some (.row .FZ e' t' xs)=>if h:e'=e/\t'=t then(match JK hp l cs with
     | some y=>h.2▸some (xs,y)
     | none=>none) else none
   | _=>none
 | _,_=>none
def CJ (hp:List AB) (tm:List AV):(ps:List PK)->List Operand->Option (PT ps)
 | [],[]=>some ()
 | .ty t::ts,o::os=>match AQ tm o with
   | .val cs=>match Ee hp t cs with
     | some (x,[])=>match CJ hp tm ts os with
       | some xs=>some (x,xs)
       | none=>none
     | _=>none
   | _=>none
 | .st e fs::ts,o::os=>match AQ tm o with
   | .val [.ptr j 0]=>match hp[j]? with
     | some (.cells _ e' cs)=>if e'=e then(match JK hp fs cs with
       | some x=>match CJ hp tm ts os with
         | some xs=>some (x,xs)
         | none=>none
       | none=>none) else none
     | _=>none
   | _=>none
 | .KR e t::ts,o::os=>match AQ tm o with
   | .val [.own j]=>match hp[j]? with
     | some (.row _ e' t' xs)=>if h:e'=e/\t'=t then(match CJ hp tm ts os with
       | some ys=>h.2▸some (xs,ys)
       | none=>none) else none
     | _=>none
   | _=>none
 | _,_=>none
def Y7 (hp:List AB) (tm:List AV):List PK->List Operand->List (Nat × AB)
 | .ty t::ts,o::os=>Kb hp (cellsOf (AQ tm o))++Y7 hp tm ts os
 | _::ts,_::os=>Y7 hp tm ts os
 | _,_=> []
def DX (hp:List AB) (rq:Lq):(fs:List FK)->FT fs->List AC->Nat->List AC × List (Nat × AB)
 | .ty t::l,(x,y),cs,b=>((WQ t x)++(DX hp rq l y (cs.drop t.size) b).1,(DX hp rq l y (cs.drop t.size) b).2)
 | .row true e t::l,(x,y), .own j::cs,b=>(.own j::(DX hp rq l y cs b).1,(match hp[j]? with
   | some (.row q _ _ _)=>(j, .row q e t x)::(DX hp rq l y cs b).2
   | _=>(DX hp rq l y cs b).2))
 | .row false e t::l,(x,y), .own j::cs,b=>(.own b::(DX hp rq l y cs (b+1)).1,(b, .row rq e t x)::(j, .used)::(DX hp rq l y cs (b+1)).2)
 | .row false e t::l,(x,y),_::cs,b=>(.own b::(DX hp rq l y cs (b+1)).1,(b, .row rq e t x)::(DX hp rq l y cs (b+1)).2)
 | _,_,cs,_=>(cs,[])
def Em:List FK->Nat
 | []=>0
 | .row false _ _::l=>Em l+1
 | _::l=>Em l
def En (hp:List AB) (tm:List AV) (rq:Lq):(ps:List PK)->ET ps->List Operand->Nat->List (Nat × AB)
 | .ty _::ts,x,_::os,b=>En hp tm rq ts x os b
 | .st e fs::ts,(x,y),o::os,b=>match AQ tm o with
   | .val [.ptr j 0]=>match hp[j]? with
     | some (.cells q _ cs)=>(j, .cells q e (DX hp rq fs x cs b).1)::((DX hp rq fs x cs b).2++En hp tm rq ts y os (b+Em fs))
     | _=> []
   | _=> []
 | .KR e t::ts,(x,y),o::os,b=>match AQ tm o with
   | .val [.own j]=>match hp[j]? with
     | some (.row q _ _ _)=>(j, .row q e t x)::En hp tm rq ts y os b
     | _=> []
   | _=> []
 | _,_,_,_=> []
def yu:List FK->Bool
 | []=>true
 | .row true _ _::l=>yu l
 | _=>false
def Dd (tm:List AV):List PK->List Operand->List Nat
 | .st _ fs::ts,o::os=>match yu fs,AQ tm o with
   | true, .val [.ptr j 0]=>j::Dd tm ts os
   | _,_=>Dd tm ts os
 | _::ts,_::os=>Dd tm ts os
 | _,_=> []
def iL:List (Nat × AB)->Nat->Nat
 | [],_=>0
 | p::l,j=>if p.1=j then iL l j+1 else iL l j
def without (ks:List Nat):List (Nat × AB)->List (Nat × AB)
 | []=> []
 | p::l=>if ks.contains p.1=true then without ks l else p::without ks l
def Zm (l:List (Nat × AB)):List Nat->List (Nat × AB)
 | []=>l
 | k::ks=>if((k::ks).all λj=>iL l j==1)=true then without (k::ks) l else l
def Lp (hp:List AB):List FK->List AC->Bool
 | .ty t::l,cs=>Lp hp l (cs.drop t.size)
 | .row _ _ _::l, .own j::cs=>(match hp[j]? with
   | some (.row .mine _ _ _)=>true
   | _=>false)&&Lp hp l cs
 | .row _ _ _::l,_::cs=>Lp hp l cs
 | _,_=>true
def Ge (hp:List AB) (tm:List AV):List PK->List Operand->Bool
 | .ty _::ts,_::os=>Ge hp tm ts os
 | .st _ fs::ts,o::os=>(match AQ tm o with
   | .val [.ptr j 0]=>match hp[j]? with
     | some (.cells .mine _ cs)=>Lp hp fs cs
     | _=>false
   | _=>false)&&Ge hp tm ts os
 | .KR _ _::ts,o::os=>(match AQ tm o with
   | .val [.own j]=>match hp[j]? with
     | some (.row .mine _ _ _)=>true
     | _=>false
   | _=>false)&&Ge hp tm ts os
 | _,_=>true
def JQ (b:Bool):Lq:=match b with
 | true=> .mine
 | false=> .FZ
def Gi:List FK->List AC->List Nat
 | .ty t::l,cs=>Gi l (cs.drop t.size)
 | .row _ _ _::l, .own j::cs=>j::Gi l cs
 | .row _ _ _::l,_::cs=>Gi l cs
 | _,_=> []
def Dq (hp:List AB) (tm:List AV):List PK->List Operand->List Nat
 | .ty _::ts,_::os=>Dq hp tm ts os
 | .st _ fs::ts,o::os=>match AQ tm o with
   | .val [.ptr j 0]=>match hp[j]? with
     | some (.cells _ _ cs)=>j::(Gi fs cs++Dq hp tm ts os)
     | _=> []
   | _=> []
 | .KR _ _::ts,o::os=>match AQ tm o with
   | .val [.own j]=>j::Dq hp tm ts os
   | _=> []
 | _,_=> []
def JR:List PK->Nat
 | []=>0
 | .st _ fs::l=>Em fs+JR l
 | _::l=>JR l
def Zn:List Nat->Bool
 | []=>true
 | a::l=> !l.contains a&&Zn l
def yw (hp:List AB) (j:Nat):Bool:=match hp[j]? with
 | some .gone=>true
 | _=>false
def Zo:List (Nat × Nat)->Nat->Nat
 | [],_=>0
 | (u,b)::l,i=>if i=u then b else Zo l i
def mT (d:Option Tmp):List Operand->Nat
 | .tmp t::os=>max t (mT d os)
 | _::os=>mT d os
 | []=>match d with
   | some t=>t
   | none=>0
def mU (hp:List AB) (tm:List AV) (ps:List PK) (os:List Operand) (b:Nat):Bool :=
 Zn (Dq hp tm ps os)&&(Y7 hp tm ps os).all (λp=> !(Dq hp tm ps os).contains p.1)&&(List.range (JR ps)).all λi=>yw hp (b+i)
def fO {R:Type 1} (h:Option Int) (d:Int) (k:Int->R):R:=match h with
 | some x=>k x
 | none=>k d
theorem yx {R:Type 1} (h:Option Int) (d:Int) (k:Int->R):fO h d k=k (h.getD d):=by cases h<;>rfl
def yy (Θ:JE) (t:TypeId):Bool:=match ti Θ t with
 | some i=>match i.kind with
   | .map kt vt=>match ti Θ kt,ti Θ vt with
     | some a,some b=>match a.kind,b.kind with
       | .int .i64, .int .i64=>iG (.int .i64) b.zero
       | _,_=>false
     | _,_=>false
   | _=>false
 | none=>false
def uK:IntKind->Bool
 | .i64=>true
 | _=>false
def NJ (tm:List AV):Option Operand->Option (Option Int)
 | none=>some none
 | some o=>match AQ tm o with
   | .val [.ro (.int _) n]=>some (some n)
   | _=>none
def stepT (Θ:JE) (S:FuncId->Option FE) (k:Nat) (tm:List AV) (hp:List AB) (d:Option Tmp) (o:Op) (K:AV->HC->Tree R):Tree R :=
 match o with
 | .move x | .assign x=>K (AQ tm x) H0
 | .pick c x y=>match AQ tm c with
   | .val [.ro .bool b]=>Tree.J2 ((b:Bool)=true) (K (AQ tm x) H0) (K (AQ tm y) H0)
   | _=> .non
 | .binOp op t x y _=>match AQ tm x,AQ tm y with
   | .val [.ro (.int k) m], .val [.ro (.int k') n]=>if AB7 op=true then Zk op k m n (λv=>K v H0) else if k=k' then q8 op k m n (λv=>K v H0) else .non
   | .val [.ro .bool m], .val [.ro .bool n]=>match ti Θ t with
     | some i=>match i.kind with
       | .bool=>iK op m n (λv=>K v H0)
       | _=> .non
     | none=> .non
   | .val [.ro .str m], .val [.ro .str n]=>match ti Θ t with
     | some i=>match i.kind with
       | .str=>q9 op m n (λv=>K v H0)
       | _=> .non
     | none=> .non
   | .val [.ptr _ _], .val [.Li]=>match ti Θ t with
     | some i=>match i.kind with
       | .ptr=>P4 op false (λv=>K v H0)
       | _=> .non
     | none=> .non
   | .val [.Li], .val [.Li]=>match ti Θ t with
     | some i=>match i.kind with
       | .ptr=>P4 op true (λv=>K v H0)
       | _=> .non
     | none=> .non
   | .val xs, .val ys=>match ti Θ t with
     | some i=>if 1<i.cmp.length then(match Zl i.cmp xs ys with
       | some b=>P4 op b (λv=>K v H0)
       | none=> .non) else .non
     | none=> .non
   | _,_=> .non
 | .unOp op _ x=>match op,AQ tm x with
   | .not, .val [.ro .bool b]=>K (bv (!b)) H0
   | .neg, .val [.ro (.int k) n]=>K (iv k (wr k (-(n:Int)))) H0
   | .xor, .val [.ro (.int k) n]=>K (iv k (Go.bits .xor k (if k.signed then -1 else k.max) n)) H0
   | _,_=> .non
 | .convert s t x=>match AQ tm x,ti Θ s,ti Θ t with
   | .val [.ro (.int _) n],some _,some i=>match i.kind with
     | .int k'=>K (iv k' (wr k' n)) H0
     | _=> .non
   | _,_,_=> .non
 | .nilCheck x=>match AQ tm x with
   | .val [.ptr j o]=>K (.val [.ptr j o]) H0
   | _=> .non
 | .extract x i=>match AQ tm x with
   | .tup ts=>match ts[i]? with
     | some cs=>K (.val cs) H0
     | none=> .non
   | _=> .non
 | .load t x=>match AQ tm x,ti Θ t with
   | .val [.ptr j o],some i=>match hp[j]? with
     | some (.cells _ _ cs)=>if o+i.size<=cs.length then K (.val ((cs.drop o).take i.size)) H0 else .non
     | _=> .non
   | .val [.rel t' y],some i=>if i.size=t'.size then K (.val (WQ t' y)) H0 else .non
   | .val [.qU j q o sz],some i=>match hp[j]? with
     | some (.row _ _ t' xs)=>if sz=t'.size then(match part t' ((xs:List (T t')).getD q.toNat (dflt t')) o i.size with
       | some (.rel t2 y)=>if i.size=t2.size then K (.val (WQ t2 y)) H0 else .non
       | _=> .non) else .non
     | _=> .non
   | _,_=> .non
 | .store t x y=>match AQ tm x,AQ tm y,ti Θ t with
   | .val [.ptr j o], .val xs,some i=>match hp[j]? with
     | some (.cells q e cs)=>if xs.length=i.size/\o+i.size<=cs.length then K .FA ⟨none,[(j, .cells q e (cs.take o++xs++cs.drop (o+i.size)))]⟩ else .non
     | _=> .non
   | .val [.qU j q 0 sz], .val ys,some i=>match hp[j]? with
     | some (.row lq e t' xs)=>if sz=t'.size/\i.size=sz/\JF (Kb hp ys) j=false then(match Ee hp t' ys with
       | some (y,[])=>K .FA ⟨none,(j, .row lq e t' ((xs:List (T t')).set q.toNat y))::Kb hp ys⟩
       | _=> .non) else .non
     | _=> .non
   | .val [.Hg j], .val ys,some i=>match i.kind with
     | .arr n _=>match hp[j]? with
       | some (.row lq e t' xs)=>if i.size=n*t'.size/\JF (Kb hp ys) j=false then(match rows hp t' n ys with
         | some xs'=>Tree.J2 ((xs:List (T t')).length=n) (K .FA ⟨none,(j, .row lq e t' xs')::Kb hp ys⟩) .non
         | none=> .non) else .non
       | _=> .non
     | _=> .non
   | _,_,_=> .non
 | .fieldAddr s x f=>match AQ tm x,ti Θ s with
   | .val [.ptr j o],some i=>match i.kind with
     | .struct fs=>match fs[f]? with
       | some (off,sz)=>if sz=0 then .non else K (.val [.ptr j (o+off)]) H0
       | none=> .non
     | _=> .non
   | .val [.qU j q o z],some i=>match i.kind with
     | .struct fs=>match fs[f]? with
       | some (off,sz)=>if sz=0 then .non else K (.val [.qU j q (o+off) z]) H0
       | none=> .non
     | _=> .non
   | .val [.rel t y],some i=>match i.kind with
     | .struct fs=>match fs[f]? with
       | some (off,sz)=>if sz=0 then .non else match part t y off sz with
         | some c=>K (.val [c]) H0
         | none=> .non
       | none=> .non
     | _=> .non
   | _,_=> .non
 | .indexAddr t x y=>match AQ tm x,AQ tm y,ti Θ t with
   | .val [.ro (.row e t') xs], .val [.ro (.int _) i],some q=>match q.kind with
     | .slice e'=>match ti Θ e' with
       | some z=>if e=e'/\z.size=t'.size then Tree.J2 ((0:Int)<=i) (Tree.J2 ((i:Int)<((xs:List (T t')).length:Int)) (K (.val [.rel t' ((xs:List (T t')).getD (i:Int).toNat (dflt t'))]) H0) .non) .non else .non
       | none=> .non
     | _=> .non
   | .val [.Hg j], .val [.ro (.int _) i],some q=>match q.kind with
     | .arr n e'=>match ti Θ e' with
       | some z=>match hp[j]? with
         | some (.row _ _ t' xs)=>if z.size=t'.size then Tree.J2 ((0:Int)<=i) (Tree.J2 ((i:Int)<(n:Int)) (Tree.J2 ((i:Int)<((xs:List (T t')).length:Int)) (K (.val [.qU j i 0 t'.size]) H0) .non) .non) .non else .non
         | _=> .non
       | none=> .non
     | _=> .non
   | .val [.own j], .val [.ro (.int _) i],some q=>match q.kind with
     | .slice e'=>match ti Θ e' with
       | some z=>match hp[j]? with
         | some (.row _ e t' xs)=>if e=e'/\z.size=t'.size then Tree.J2 ((0:Int)<=i) (Tree.J2 ((i:Int)<((xs:List (T t')).length:Int)) (K (.val [.qU j i 0 t'.size]) H0) .non) .non else .non
         | some (.Zg e t' xs)=>if e=e'/\z.size=t'.size then Tree.J2 ((0:Int)<=i) (Tree.J2 ((i:Int)<((xs:List (T t')).length:Int)) (K (.val [.rel t' ((xs:List (T t')).getD (i:Int).toNat (dflt t'))]) H0) .non) .non else .non
         | _=> .non
       | none=> .non
     | _=> .non
   | _,_,_=> .non
 | .index t x y=>match ti Θ t with
   | some q=>match q.kind with
     | .str=>match AQ tm x,AQ tm y with
       | .val [.ro .str s], .val [.ro (.int _) i]=>Tree.J2 ((0:Int)<=i) (Tree.J2 ((i:Int)<((s:ByteArray).size:Int)) (K (iv .u8 (bt s i)) H0) .non) .non
       | _,_=> .non
     | .arr n e=>match AQ tm x,AQ tm y,ti Θ e with
       | .val cs, .val [.ro (.int _) i],some z=>if cs.length=n*z.size/\cs.length≠1 then Tree.J2 ((0:Int)<=i) (Tree.J2 ((i:Int)<(n:Int)) (K (.val ((cs.drop ((i:Int).toNat*z.size)).take z.size)) H0) .non) .non else .non
       | _,_,_=> .non
     | _=> .non
   | none=> .non
 | .box e x=>match AQ tm x,d with
   | .val cs,some t=>match ti Θ e with
     | some i=>match i.kind with
       | .arr n e'=>match ti Θ e' with
         | some z=>match z.ty with
           | some ty=>if z.size=ty.size/\n≠0/\n<=1000/\z.size<=1000 then(match rows hp ty n cs with
             | some xs=>K (.val [.Hg t]) ⟨some (.row .mine e ty xs),Kb hp cs⟩
             | none=> .non) else .non
           | none=> .non
         | none=> .non
       | _=>K (.val [.ptr t 0]) ⟨some (.cells .mine e cs),[]⟩
     | none=>K (.val [.ptr t 0]) ⟨some (.cells .mine e cs),[]⟩
   | _,_=> .non
 | .alloc e=>match ti Θ e,d with
   | some i,some t=>match i.kind with
     | .arr n e'=>match ti Θ e' with
       | some z=>match z.ty with
         | some ty=>if z.size=ty.size/\n≠0/\n<=1000/\z.size<=1000/\JJ i.zero=true then(match rows hp ty n i.zero with
           | some xs=>K (.val [.Hg t]) ⟨some (.row .mine e ty xs),Kb hp i.zero⟩
           | none=> .non) else .non
         | none=> .non
       | none=> .non
     | _=>K (.val [.ptr t 0]) ⟨some (.cells .mine e i.zero),[]⟩
   | _,_=> .non
 | .build t ps=>match ti Θ t with
   | some i=>match i.kind with
     | .struct fs=>if fs.all (λp=>p.2 !=0)=true then(match Lo (fs[·]?) i.zero (ps.toList.map λp=>(p.1,AQ tm p.2)) with
       | some cs=>if cs.length=1 then .non else K (.val cs) H0
       | none=> .non) else .non
     | .arr n e=>match ti Θ e with
       | some z=>(match Lo (λi=>some (i*z.size,z.size)) i.zero (ps.toList.map λp=>(p.1,AQ tm p.2)) with
         | some cs=>if cs.length=1 then .non else K (.val cs) H0
         | none=> .non)
       | none=> .non
     | _=> .non
   | none=> .non
 | .buildSlice t n ps=>match ti Θ t with
   | some i=>match i.kind with
     | .slice e=>match ti Θ e with
       | some z=>match z.ty with
         | some ty=>if z.size=ty.size/\n*z.size<=1000/\JJ z.zero=true then(match Lo (λi=>some (i*z.size,z.size)) ((List.range n).flatMap λ_=>z.zero) (ps.toList.map λp=>(p.1,AQ tm p.2)),d with
           | some cs,some q=>match rows hp ty n cs with
             | some xs=>if n=0 then K (.val [.own q]) ⟨some (.row .mine e ty xs),[]⟩ else K (.val [.ro (.row e ty) xs]) ⟨none,Kb hp cs⟩
             | none=> .non
           | _,_=> .non) else .non
         | none=> .non
       | none=> .non
     | _=> .non
   | none=> .non
 | .makeSlice t x y=>match ti Θ t,d with
   | some i,some q=>match i.kind with
     | .slice e=>match ti Θ e with
       | some z=>match z.ty with
         | some ty=>if z.size=ty.size/\iG ty z.zero=true/\z.bytes≠0 then(match AQ tm x,AQ tm y with
           | .val [.ro (.int _) n], .val [.ro (.int _) c]=>Tree.J2 ((0:Int)<=n) (Tree.J2 ((n:Int)<=c) (Tree.J2 ((c:Int).toNat*z.bytes<=281474976710656) (K (.val [.own q]) ⟨some (.row .mine e ty (List.replicate (n:Int).toNat (dflt ty))),[]⟩) .non) .non) .non
           | _,_=> .non) else .non
         | none=> .non
       | none=> .non
     | _=> .non
   | _,_=> .non
 | .makeMap t none=>match d with
   | some q=>if yy Θ t=true then K (.val [.own q]) ⟨some (.map []),[]⟩ else .non
   | none=> .non
 | .lookup t x y false=>match AQ tm x,AQ tm y with
   | .val [.own j], .val [.ro (.int k) n]=>match hp[j]? with
     | some (.map xs)=>if yy Θ t=true/\uK k=true then K (iv .i64 (mP xs n)) H0 else .non
     | _=> .non
   | _,_=> .non
 | .mapUpdate t x y z=>match AQ tm x,AQ tm y,AQ tm z,d with
   | .val [.own j], .val [.ro (.int k) n], .val [.ro (.int k') v],none=>match hp[j]? with
     | some (.map xs)=>if yy Θ t=true/\uK k=true/\uK k'=true then K .FA ⟨none,[(j, .map (Zf xs n v))]⟩ else .non
     | _=> .non
   | _,_,_,_=> .non
 | .slice t x lo hi mx=>match ti Θ t,mx with
   | some i,none=>match i.kind,AQ tm x,NJ tm lo,NJ tm hi with
     | .slice e, .val [c],some l,some h=>match ti Θ e with
       | some z=>match z.ty with
         | some ty=>if z.size=ty.size then(match Uc hp e ty c with
           | some xs=>fO h ((xs:List (T ty)).length:Int) λh'=>fO l 0 λl' =>
             Tree.J2 ((0:Int)<=l') (Tree.J2 (l'<=h') (Tree.J2 (h'<=((xs:List (T ty)).length:Int)) (K (.val [.ro (.row e ty) (((xs:List (T ty)).take h'.toNat).drop l'.toNat)]) ⟨none,Kb hp [c]⟩) .non) .non) .non
           | none=> .non) else .non
         | none=> .non
       | none=> .non
     | .str, .val [.ro .str s],some l,some h=>fO h ((s:ByteArray).size:Int) λh'=>fO l 0 λl' =>
       Tree.J2 ((0:Int)<=l') (Tree.J2 (l'<=h') (Tree.J2 (h'<=((s:ByteArray).size:Int)) (K (.val [.ro .str ((s:ByteArray).extract l'.toNat h'.toNat)]) H0) .non) .non) .non
     | _,_,_,_=> .non
   | some i,some m=>match i.kind,AQ tm x,lo,NJ tm hi,NJ tm (some m),d with
     | .slice e, .val [c],none,some (some h),some (some g),some q=>match ti Θ e with
       | some z=>match z.ty with
         | some ty=>if z.size=ty.size then(match Jo hp e ty c with
           | some (src,lq,xs)=>Tree.J2 ((0:Int)<=h) (Tree.J2 ((h:Int)<=g) (Tree.J2 ((g:Int)<=((xs:List (T ty)).length:Int)) (K (.val [.own q]) ⟨some (.row lq e ty ((xs:List (T ty)).take (h:Int).toNat)),src⟩) .non) .non) .non
           | none=> .non) else .non
         | none=> .non
       | none=> .non
     | _,_,_,_,_,_=> .non
   | _,_=> .non
 | .call c=>match c.callee with
   | .value (.func g)=>match S g with
     | some (.io s nm)=>match CJ hp tm s.ps c.args.toList with
       | some x=>if mU hp tm s.ps c.args.toList (Zo nm (mT d c.args.toList))=true then Tree.dR (s.f k x) λr=>K (qz s.rs r.1) ⟨none,Zm (En hp tm (JQ (Ge hp tm s.ps c.args.toList)) s.ps r.2 c.args.toList (Zo nm (mT d c.args.toList))) (Dd tm s.ps c.args.toList)++Y7 hp tm s.ps c.args.toList⟩ else .non
       | none=> .non
     | some (.pu s)=>match args hp tm s.ps c.args.toList with
       | some x=>Tree.dR (s.f k x) λr=>K (qz s.rs r) ⟨none,if s.rs.all Ua=true then[] else HZ hp tm c.args.toList⟩
       | none=> .non
     | some (.np s)=>match args hp tm s.ps c.args.toList,d with
       | some x,some q=>Tree.dR (s.f k x) λr=>Tree.J2 (r.1=true) (K (.val [.Li]) ⟨none,HZ hp tm c.args.toList⟩) (K (.val [.ptr q 0]) ⟨some (.cells .mine s.e (ncs s.fs r.2)),HZ hp tm c.args.toList⟩)
       | _,_=> .non
     | some (.nw s)=>match args hp tm s.ps c.args.toList,d with
       | some x,some q=>Tree.dR (s.f k x) λr=>K (.val [.own q]) ⟨some (.row .mine s.e s.t r),HZ hp tm c.args.toList⟩
       | _,_=> .non
     | none=> .non
   | .builtin .len=>match c.args.toList,c.argTypes.toList with
     | [x],[t]=>match AQ tm x,ti Θ t with
       | .val [.ro (.row _ t') xs],some i=>match i.kind with
         | .slice _=>K (iv .i64 ((xs:List (T t')).length:Int)) H0
         | _=> .non
       | .val [.Bo],some i=>match i.kind with
         | .slice _=>K (iv .i64 0) H0
         | _=> .non
       | .val [.own j],some i=>match i.kind with
         | .slice _=>match hp[j]? with
           | some (.row _ _ t' xs)=>K (iv .i64 ((xs:List (T t')).length:Int)) H0
           | some (.Zg _ t' xs)=>K (iv .i64 ((xs:List (T t')).length:Int)) H0
           | _=> .non
         | _=> .non
       | .val [.ro .str s],some i=>match i.kind with
         | .str=>K (iv .i64 ((s:ByteArray).size:Int)) H0
         | _=> .non
       | _,_=> .non
     | _,_=> .non
   | .builtin .max=>match c.args.toList with
     | [x,y]=>match AQ tm x,AQ tm y with
       | .val [.ro (.int k) m], .val [.ro (.int _) n]=>K (iv k (mx m n)) H0
       | _,_=> .non
     | _=> .non
   | .builtin .min=>match c.args.toList with
     | [x,y]=>match AQ tm x,AQ tm y with
       | .val [.ro (.int k) m], .val [.ro (.int _) n]=>K (iv k (mn m n)) H0
       | _,_=> .non
     | _=> .non
   | .builtin .append=>match c.args.toList,c.argTypes.toList,d with
     | [x,y],[t,t2],some q=>if t=t2 then(match ti Θ t with
       | some i=>match i.kind with
         | .slice e=>match ti Θ e with
           | some z=>match z.ty with
             | some ty=>if z.size=ty.size/\z.bytes≠0 then(match AQ tm x,AQ tm y with
               | .val [cx], .val [cy]=>match Jo hp e ty cx,eo hp e ty cy with
                 | some (src,lq,xs),some ys=>Tree.J2 (((xs:List (T ty)).length+(ys:List (T ty)).length)*z.bytes<=140737488355328) (K (.val [.own q]) ⟨some (.row lq e ty (xs++ys)),src⟩) .non
                 | _,_=> .non
               | _,_=> .non) else .non
             | none=> .non
           | none=> .non
         | _=> .non
       | none=> .non) else .non
     | _,_,_=> .non
   | _=> .non
 | _=> .non
end
end
end Go.Proofs.YtjocbnjpjihpnaaGreatW.Gb
end
section
namespace Go.Proofs.YtjocbnjpjihpnaaGreatW.Gb
open Go.RowKit Go.Proofs.YtjocbnjpjihpnaaGreatW.AD Go.Proofs.YtjocbnjpjihpnaaGreatW.AR Go.Proofs.YtjocbnjpjihpnaaGreatW.AY
set_option linter.unusedVariables false
set_option linter.unusedSectionVars false
set_option linter.unusedSimpArgs false
section
def Goes (P:Program) (o:Oper) (U0:Nat->Prop) (ν:Nat->Value) (tm:List AV) (hp:List AB) (w0:St) (a:Act) (w:World) (x:AV) (δ:HC):Prop :=
 hok o.dst hp δ=true-> ∀(next:Act->World->Prop) (Q:Exit->Act->World->Prop),
  (∀ν' v w',Inv U0 ν' (Lj tm o.dst x) (N3 o.dst hp δ) w0 (a.put o.dst v) w'->next (a.put o.dst v) w')->o.wp P a w next Q
section
variable {P:Program} {o:Oper} {U0:Nat->Prop} {ν:Nat->Value} {L:Nat->Prop} {tm:List AV} {hp:List AB} {w0:St} {w:World} {a:Act}
theorem Ab (I:Inv U0 ν tm hp w0 a w) {x:AV} {v:Value} (hrun:(execOp a.eval o).run P w= .ok (.value v) w) (hx:Fa U0 ν (lv hp) w x v):Goes P o U0 ν tm hp w0 a w x H0:=by
 intro _ next Q h
 unfold Oper.wp;rw[hrun];exact h ν v w (I.P3 o.dst hx)
theorem yz {R:AC->Value->Prop} {c:AC} {vs:List Value} (h:CD R [c] vs) : ∃v,vs= [v]/\R c v:=by
 match vs,h with
 | [v],h=>exact⟨v,rfl,h.1⟩
 | [],h=>exact h.elim
 | _::_::_,h=>exact h.2.elim
theorem val_one {c:AC} {v:Value} (h:Fa U0 ν L w (.val [c]) v):CW U0 ν L w c v:=by
 obtain⟨vs,h1,h2⟩:=h;obtain⟨u,rfl,h3⟩:=yz h2;rw[h1];exact h3
theorem Ud {v:Value} (h:CW U0 ν L w .Li v):v= .pointer none:=h
theorem D3 {c:AC} {v:Value} (h:CW U0 ν L w c v):Fa U0 ν L w (.val [c]) v:=⟨[v],rfl,h,trivial⟩
theorem Fc {k:IntKind} {n:Int} {v:Value} (h:Fa U0 ν L w (.val [.ro (.int k) n]) v):v= .int k n:=by
 have:=(val_one h).2;exact(AOM this).1
theorem Rg {b:Bool} {v:Value} (h:Fa U0 ν L w (.val [.ro .bool b]) v):v= .bool b:=by
 have:=(val_one h).2;exact(AOM this).1
theorem Zp {s:ByteArray} {v:Value} (h:Fa U0 ν L w (.val [.ro .str s]) v):v= .string s:=by
 have:=(val_one h).2;exact(AOM this).1
theorem Hh (k:IntKind) (n:Int):Fa U0 ν L w (iv k n) (.int k n):=D3 ⟨rfl,rfl⟩
theorem Tc (b:Bool):Fa U0 ν L w (bv b) (.bool b):=D3 ⟨rfl,rfl⟩
end
section
variable {P:Program} {Θ:JE} {S:FuncId->Option FE} {k:Nat} {o:Oper} {U0:Nat->Prop} {ν:Nat->Value} {tm:List AV} {hp:List AB} {w0:St} {w:World} {a:Act} {R:Type} {K:AV->HC->Tree R} {r:R}
def CX (P:Program) (Θ:JE) (S:FuncId->Option FE) (k:Nat) (o:Oper) (U0:Nat->Prop) (ν:Nat->Value) (tm:List AV) (hp:List AB) (w0:St) (a:Act) (w:World) {R:Type} (K:AV->HC->Tree R) (r:R):Prop :=
 ∃x δ,(K x δ).run=some r/\Goes P o U0 ν tm hp w0 a w x δ
theorem uL (I:Inv U0 ν tm hp w0 a w) {x:Operand} (ho:o.op= .move x\/o.op= .assign x) (h:(K (AQ tm x) H0).run=some r):CX P Θ S k o U0 ν tm hp w0 a w K r:=by
 refine⟨_,_,h,Ab I (v:=a.eval x) ?_ (I.AQ x)⟩;rcases ho with ho | ho<;>simp[execOp,ho]
theorem AB8 (I:Inv U0 ν tm hp w0 a w) {c x y:Operand} (ho:o.op= .pick c x y) (h:(stepT Θ S k tm hp o.dst (.pick c x y) K).run=some r):CX P Θ S k o U0 ν tm hp w0 a w K r:=by
 simp only[stepT] at h;split at h
 · rename_i b hc
   have hv:=Rg (hc▸I.AQ c);rcases Tree.Ln h with⟨hb,h⟩ | ⟨hb,h⟩
   · refine⟨_,_,h,Ab I (v:=a.eval x) ?_ (I.AQ x)⟩
     simp[execOp,ho,hv,asBool,hb]
   · refine⟨_,_,h,Ab I (v:=a.eval y) ?_ (I.AQ y)⟩
     simp[execOp,ho,hv,asBool,hb]
 · cases h
theorem BO (hΘ:Θ.ok P=true) {t:TypeId} {i:TI} (h:ti Θ t=some i) : ∃f d,P.info? t=some f/\P.underlying t=some d/\f.size=i.size/\f.bytes=i.bytes/\JI P d i.kind=true/\Ye d=(i.size !=1)/\i.zero.length=i.size/\ ∃z:List Value,f.zero=some (Ny z)/\v5 z i.zero=true:=yg (ADd hΘ h)
theorem wD {d:TypeDesc} (h:JI P d .bool=true):d= .bool:=by
 cases d<;>simp[JI] at h<;>rfl
theorem IE {d:TypeDesc} {e:TypeId} (h:JI P d (.slice e)=true):d= .slice e:=by
 cases d<;>simp[JI] at h
 rw[h]
theorem Lr {d:TypeDesc} {gs:List (Nat × Nat)} (h:JI P d (.struct gs)=true) : ∃fs,d= .struct fs/\fs.toList.map (λf=>(f.offset,((P.info? f.type).map (·.size)).getD 0))=gs:=by
 cases d<;>simp[JI] at h
 exact⟨_,rfl,by simpa using h⟩
theorem Zq {d:TypeDesc} {n:Nat} {e:TypeId} (h:JI P d (.arr n e)=true):d= .array n e:=by
 cases d<;>simp[JI] at h
 rw[h.1,h.2]
theorem Ue {d:TypeDesc} (h:JI P d .str=true):d= .string:=by
 cases d<;>simp[JI] at h<;>rfl
theorem AB9 (k k':IntKind) (x y:Int) (h:0<=y):Op.shift .shl k x k' y=pure (.int k (shl k x y)):=by
 simp[Op.shift,shl];omega
theorem ACA (k k':IntKind) (x y:Int) (h:0<=y):Op.shift .shr k x k' y=pure (.int k (shr k x y)):=by
 have hp:(0:Int)<=2^min y.toNat k.bits:=Int.pow_nonneg (by decide);simp[Op.shift,shr,Int.fdiv_eq_ediv_of_nonneg _ hp];omega
theorem y8 {d:TypeDesc} (h:JI P d .ptr=true) : ∃e,d= .pointer e:=by
 cases d<;>simp[JI] at h
 exact⟨_,rfl⟩
theorem ep (hΘ:Θ.ok P=true) (I:Inv U0 ν tm hp w0 a w) {b:BinOp} {t u:TypeId} {x y:Operand} {i:TI} {A:Option Addr} (ho:o.op= .binOp b t x y u) (hi:ti Θ t=some i) (hk:i.kind= .ptr) (h1:a.eval x= .pointer A) (h2:a.eval y= .pointer none) (h:(P4 b A.isNone (λv=>K v H0)).run=some r):CX P Θ S k o U0 ν tm hp w0 a w K r:=by
 obtain⟨f,d,_,ht,_,_,hd,_⟩:=BO hΘ hi;rw[hk] at hd;obtain⟨e,rfl⟩:=y8 hd;have key:(Op.equal t (.pointer A) (.pointer none)).run P w= .ok A.isNone w:=by
  unfold Op.equal Op.maxDepth Op.equalIn;cases A with
  | none=>simp[run_underlying ht]
  | some ad=>simp[run_underlying ht]
 unfold P4 at h;cases b<;>simp only at h<;>first
  | exact(Tree.Gd h).elim
  | exact⟨_,_,h,Ab I (by simp only[execOp,ho,h1,h2];simp[eqGuard,binOp,key]) (Tc _)⟩
theorem ACB (I:Inv U0 ν tm hp w0 a w) {b:UnOp} {t:TypeId} {x:Operand} (ho:o.op= .unOp b t x) (h:(stepT Θ S k tm hp o.dst (.unOp b t x) K).run=some r):CX P Θ S k o U0 ν tm hp w0 a w K r:=by
 simp only[stepT] at h;split at h
 · rename_i m hx
   have h1:=Rg (hx▸I.AQ x);exact⟨_,_,h,Ab I (by simp only[execOp,ho,h1];simp[go_sem]) (Tc (!m))⟩
 · rename_i k n hx
   have h1:=Fc (hx▸I.AQ x);rw[wr_eq] at h;refine⟨_,_,h,Ab I ?_ (Hh k (k.wrap (-(n:Int))))⟩;simp only[execOp,ho,h1];simp[go_sem]
 · rename_i k n hx
   have h1:=Fc (hx▸I.AQ x);refine⟨_,_,h,Ab I ?_ (Hh k _)⟩;simp only[execOp,ho,h1];simp[go_sem,Op.unary]
 · cases h
theorem mV (I:Inv U0 ν tm hp w0 a w) {x:Operand} (ho:o.op= .nilCheck x) (h:(stepT Θ S k tm hp o.dst (.nilCheck x) K).run=some r):CX P Θ S k o U0 ν tm hp w0 a w K r:=by
 simp only[stepT] at h;split at h
 · rename_i j off hx
   have hr:=I.AQ x;rw[hx] at hr;obtain⟨hj,g,hν,hv⟩:=val_one hr;refine⟨_,_,h,Ab I (v:=a.eval x) ?_ hr⟩;simp[execOp,ho,hv]
 · cases h
theorem mW {d:TypeDesc} {k:IntKind} (h:JI P d (.int k)=true):d= .int k:=by
 cases d<;>simp[JI] at h
 rw[h]
theorem rA (hΘ:Θ.ok P=true) (I:Inv U0 ν tm hp w0 a w) {s t:TypeId} {x:Operand} (ho:o.op= .convert s t x) (h:(stepT Θ S k tm hp o.dst (.convert s t x) K).run=some r):CX P Θ S k o U0 ν tm hp w0 a w K r:=by
 simp only[stepT] at h;split at h
 · rename_i k' n j i hx hj hi
   split at h
   · rename_i k2 hk
     have h1:=Fc (hx▸I.AQ x);obtain⟨_,d,_,hd,_,_,hB,_⟩:=BO hΘ hi;rw[hk] at hB;rw[mW hB] at hd;obtain⟨_,d',_,hd',_⟩:=BO hΘ hj;rw[wr_eq] at h;refine⟨_,_,h,Ab I (v:= .int k2 (k2.wrap n)) ?_ (Hh _ _)⟩;simp only[execOp,ho,h1];simp[go_sem,hd,hd']
   · cases h
 · cases h
theorem rB (I:Inv U0 ν tm hp w0 a w) {x:Operand} {i:Nat} (ho:o.op= .extract x i) (h:(stepT Θ S k tm hp o.dst (.extract x i) K).run=some r):CX P Θ S k o U0 ν tm hp w0 a w K r:=by
 simp only[stepT] at h;split at h
 · rename_i ts hx
   split at h
   · rename_i cs hc
     have hr:=I.AQ x;rw[hx] at hr;obtain⟨us,h1,h2⟩:=hr;obtain⟨u,hu,vs,e,hv⟩:=h2.get hc;refine⟨_,_,h,Ab I (v:=u) ?_ ⟨vs,e,hv⟩⟩;simp[execOp,ho,h1,Instr.extract,hu]
   · cases h
 · cases h
end
end
section
theorem WR {vs:List Value} (h:vs.length≠1):Ny vs= .agg vs.toArray:=by
 unfold Ny;split
 · exact absurd rfl h
 · rfl
theorem WS {P:Program} {w:World} {t:TypeId} {d:TypeDesc} (h:P.underlying t=some d):(isAgg t).run P w= .ok (Ye d) w:=by
 unfold isAgg;simp only[Sem.run_bind,run_underlying h,Result.andThen_ok];cases d<;>simp[Ye]
theorem N4 {P:Program} {w:World} {t:TypeId} {f:TypeInfo} {d:TypeDesc} {n:Nat} {ad:Addr} {vs:List Value} (hf:P.info? t=some f) (hd:P.underlying t=some d) (hn:f.size=n) (ha:Ye d=(n !=1)) (hl:vs.length=n) (hc : ∀i,i<n->w.cell? (ad.add i)=vs[i]?) :
 (Instr.loadAt t (.pointer (some ad))).run P w= .ok (Ny vs) w:=by
 unfold Instr.loadAt Instr.sureAddr loadVar;simp only[Sem.run_bind,Sem.run_pure,Result.andThen_ok,WS hd,ha];by_cases h1:n=1
 · subst h1
   obtain⟨v,rfl⟩:=AQb.1 hl;have:=hc 0 (by omega);rw[Addr.add_zero'] at this;simp[run_load,this,Ny]
 · have hb:(n !=1)=true:=by simpa using h1
   have hL:=run_loadCells_list (P:=P) w ad vs (λj v hv=>by
    have hj:j<n:=(by rw[<-hl];exact(ANN.1 hv).1);rw[hc j hj,hv])
   rw[hl] at hL;have hs:(sizeOf t).run P w= .ok n w:=(by simp[sizeOf,typeInfo,hf,hn]);rw[WR (by omega)];simp[hb,hs,hL]
section
variable {P:Program} {Θ:JE} {S:FuncId->Option FE} {k:Nat} {o:Oper} {U0:Nat->Prop} {ν:Nat->Value} {L:Nat->Prop} {tm:List AV} {hp:List AB} {w0:St} {w:World} {a:Act} {R:Type} {K:AV->HC->Tree R} {r:R}
theorem Inv.cells (I:Inv U0 ν tm hp w0 a w) {j:Nat} {lq:Lq} {e:TypeId} {cs:List AC} (hb:hp[j]? =some (.cells lq e cs)) : ∃g vs,ν j= .pointer (some ⟨g,0,none⟩)/\KQ w0 lq g/\w.heap[g]? =some (.cells vs.toArray e (0,0))/\CD (CW U0 ν (lv hp) w) cs vs/\ ∀v∈vs,v.oneCell'=true:=by
 obtain⟨g,vs,q1,q2,q3,q4⟩:=I.mem j _ hb rfl;refine⟨g,vs,q1,q2,q3,q4,λv hv=> ?_⟩;obtain⟨c,_,hr⟩:=q4.mem v hv;exact hr.one I.iF
theorem Inv.qU (I:Inv U0 ν tm hp w0 a w) {j:Nat} {lq:Lq} {e:TypeId} {t:Ty} {xs:List (T t)} (hb:hp[j]? =some (.row lq e t xs)) {i:Int} {off sz:Nat} {v:Value} (hv:CW U0 ν (lv hp) w (.qU j i off sz) v) (hz:sz=t.size) :
 ∃g cap cur inner,ν j= .slice (some ⟨g,0,none⟩) (List.length xs) cap/\KQ w0 lq g/\w.heap[g]? =some (.cells cur e (0,0))/\cur.toList.take (List.length xs*(kd t).sz)=inner/\Ow w (bs w0 lq) e (kd t).sz (ν j) (List.length xs) inner/\Bn (λx c=>Rd (Un U0 ν (lv hp)) w t x c) (kd t).sz xs inner/\i.toNat<List.length xs/\v= .pointer (some ⟨g,i.toNat*t.size+off,none⟩):=by
 obtain⟨hj,g,n,c,h1,⟨_,h2⟩,h3⟩:=hv;obtain⟨⟨inner,h4,h5⟩,hmn⟩:=I.mem j _ hb rfl;rcases h4.2 with⟨q,_⟩ | ⟨g',cap,cur,q,q2,q3,q4,q5,q6,q7⟩
 · rw[q] at h1;cases h1
 · rw[q] at h1
   injection h1 with e1 e2 e3;injection e1 with e1;injection e1 with e1;subst e1 e2;exact⟨g',cap,cur,inner,q,hmn g' (by rw[q];rfl),q3,q7,h4,h5,h2,by rw[h3,hz]⟩
theorem Gj : ∀(t:Ty) (x:T t) {cs:List Value},Rd (Un U0 ν L) w t x cs->CD (CW U0 ν L w) (WQ t x) cs
 | .int k,x,cs,h=>by
   obtain rfl:cs= [.int k x]:=h;exact⟨⟨rfl,rfl⟩,trivial⟩
 | .bool,x,cs,h=>by
   obtain rfl:cs= [.bool x]:=h;exact⟨⟨rfl,rfl⟩,trivial⟩
 | .str,x,cs,h=>by
   obtain rfl:cs= [.string x]:=h;exact⟨⟨rfl,rfl⟩,trivial⟩
 | .row e t,x,cs,h=>by
   obtain⟨A,c,rfl,h1⟩:=h;exact⟨⟨rfl,A,c,rfl,h1⟩,trivial⟩
 | .cons p q,x,cs,h=>by
   obtain⟨c0,c1,rfl,h1,h2⟩:=h;exact(Gj p x.1 h1).app (Gj q x.2 h2)
theorem Zr : ∀ {t:Ty} {x:T t} {off sz:Nat} {t2:Ty} {y:T t2} {U:Nat->Prop} {cs:List Value},Rd U w t x cs->part t x off sz=some (.rel t2 y)->sz=t2.size->Rd U w t2 y ((cs.drop off).take sz)
 | .int k,x,off,sz,t2,y,U,cs,hr,h,hs=>by
   simp only[part] at h;split at h
   · rename_i q;injection h with h;cases h;have hr':=hr;obtain rfl:cs= [_]:=hr;rw[q.1,q.2];exact hr'
   · cases h
 | .bool,x,off,sz,t2,y,U,cs,hr,h,hs=>by
   simp only[part] at h;split at h
   · rename_i q;injection h with h;cases h;have hr':=hr;obtain rfl:cs= [_]:=hr;rw[q.1,q.2];exact hr'
   · cases h
 | .str,x,off,sz,t2,y,U,cs,hr,h,hs=>by
   simp only[part] at h;split at h
   · rename_i q;injection h with h;cases h;have hr':=hr;obtain rfl:cs= [_]:=hr;rw[q.1,q.2];exact hr'
   · cases h
 | .row e t,x,off,sz,t2,y,U,cs,hr,h,hs=>by
   simp only[part] at h;split at h
   · rename_i q;injection h with h;cases h;obtain⟨A,c,rfl,hr⟩:=hr;rw[q.1,q.2];exact⟨A,c,rfl,hr⟩
   · cases h
 | .cons p q,x,off,sz,t2,y,U,cs,hr,h,hs=>by
   simp only[part] at h;split at h
   · rename_i e;injection h with h;cases h
     have hl:cs.length=(Ty.cons p q).size:=(by rw[(kd (.cons p q)).Dr hr.K,Ey]);rw[e.1,APY,e.2,<-hl,AOT];exact hr
   · obtain⟨c0,c1,rfl,h1,h2⟩:=hr
     have hl:c0.length=p.size:=(by rw[(kd p).Dr h1.K,Ey]);split at h
     · rename_i hlt
       have:=Zr h1 h hs;have hle:off+sz<=c0.length:=by
        have h3:=(kd t2).Dr this.K;rw[Ey,<-hs,ANO,ANo] at h3;omega
       rw[AOj (by omega),AOZ (by rw[ANo];omega)];exact this
     · rename_i hge
       have:=Zr h2 h hs;rw[APG,ANn (by omega),AO9,hl];exact this
theorem ACC (hΘ:Θ.ok P=true) (I:Inv U0 ν tm hp w0 a w) {t:TypeId} {x:Operand} (ho:o.op= .load t x) (h:(stepT Θ S k tm hp o.dst (.load t x) K).run=some r):CX P Θ S k o U0 ν tm hp w0 a w K r:=by
 simp only[stepT] at h;split at h
 · rename_i j off i hx hi
   obtain⟨f,d,hf,hd,hs,_,_,ha,_⟩:=BO hΘ hi;split at h
   · rename_i e cs hb
     split at h
     · rename_i hle
       obtain⟨hj,g,hν,hv⟩:=val_one (hx▸I.AQ x);obtain⟨g',vs,h1,h2,h3,h4,h5⟩:=I.cells hb;rw[hν] at h1;injection h1 with h1;injection h1 with h1;injection h1 with h1;subst h1;have hlen:=h4.len;refine⟨_,_,h,Ab I (v:=Ny ((vs.drop off).take i.size)) ?_ ⟨_,rfl,(h4.drop off).take i.size⟩⟩;have hr:=N4 (P:=P) (w:=w) (ad:=⟨g,off,none⟩) (vs:=(vs.drop off).take i.size) hf hd hs ha (by rw[ANO,ANo];omega) (λq hq=>by
        rw[Hf,Ik h3,APg hq,ANj];simp)
       simp only[execOp,ho,hv];simp[hr]
     · cases h
   · cases h
 · rename_i t' y i hx hi
   obtain⟨f,d,hf,hd,hs,_,_,ha,_⟩:=BO hΘ hi;split at h
   · rename_i hz
     obtain⟨ad,cs,hv,hrd,hst⟩:=val_one (hx▸I.AQ x);have hlen:cs.length=i.size:=(by rw[(kd t').Dr hrd.K,Ey,hz]);refine⟨_,_,h,Ab I (v:=Ny cs) ?_ ⟨cs,rfl,Gj t' y hrd⟩⟩;have hr:=N4 (P:=P) (w:=w) (ad:=ad) (vs:=cs) hf hd hs ha hlen (λq hq=>by
      have:=(hst q _ (ANX (show q<cs.length by omega))).now;rw[this,ANX])
     simp only[execOp,ho,hv];simp[hr]
   · cases h
 · rename_i j q off sz i hx hi
   obtain⟨f,d,hf,hd,hs,_,_,ha,_⟩:=BO hΘ hi;split at h
   · rename_i e t' xs hb
     split at h
     · rename_i hz
       split at h
       · rename_i t2 y Lg
         split at h
         · rename_i hz2
           obtain⟨g,cap,cur,inner,e1,e2,e3,e4,e5,e6,e7,hv⟩:=I.qU hb (val_one (hx▸I.AQ x)) hz;have hg:(xs:List (T t'))[q.toNat]? =some ((xs:List (T t')).getD q.toNat (dflt t')):=by
            rw[ANJ,ANX e7];rfl
           have hrd:=Zr (e6.2 _ _ hg) Lg hz2;have hlen:((((inner.drop (q.toNat*(kd t').sz)).take (kd t').sz).drop off).take i.size).length=i.size:=by
            have h0:=(kd t2).Dr hrd.K;rw[h0,Ey t2,hz2]
           refine⟨_,_,h,Ab I (v:=Ny ((((inner.drop (q.toNat*(kd t').sz)).take (kd t').sz).drop off).take i.size)) ?_ ⟨_,rfl,Gj t2 y hrd⟩⟩;have hr:=N4 (P:=P) (w:=w) (ad:=⟨g,q.toNat*t'.size+off,none⟩) (vs:=(((inner.drop (q.toNat*(kd t').sz)).take (kd t').sz).drop off).take i.size) hf hd hs ha hlen (λz hz=>by
            have h3:((((inner.drop (q.toNat*(kd t').sz)).take (kd t').sz).drop off).take i.size)[z]? ≠none:=by
             rw[ANX (by omega)];simp
            rw[Hf,Ik e3];rw[APg hz,ANj] at h3 ⊢;rw[ANg] at h3 ⊢;split at h3
            · rename_i h4
              rw[if_pos h4,ANj] at *;rw[<-e4,ANg] at h3 ⊢;split at h3
              · rename_i h5
                rw[if_pos h5,Ey];simp[AOt]
              · exact absurd rfl h3
            · exact absurd rfl h3)
           simp only[execOp,ho,hv];simp[hr]
         · cases h
       · cases h
     · cases h
   · cases h
 · cases h
end
end
section
theorem Zs {i:Int} {n:Nat} (h0:0<=i) (h1:i<n):i.toNat<n/\0<n:=by omega
theorem add_add (a:Addr) (n m:Nat):(a.add n).add m=a.add (n+m):=by
 unfold Addr.add;by_cases h:n=0
 · subst h;simp
 · by_cases k:m=0
   · subst k;simp
   · simp[h,k,AOt]
theorem Zt {U0:Nat->Prop} {ν:Nat->Value} {L:Nat->Prop} {w:World} {ad:Addr} : ∀ {t:Ty} {x:T t} {off sz:Nat} {c:AC} {cs:List Value},Rd (Un U0 ν L) w t x cs->(∀i u,cs[i]? =some u->WO (Un U0 ν L) w (λW=>W.cell? (ad.add i)=some u))->part t x off sz=some c->CW U0 ν L w c (.pointer (some (ad.add off)))
 | .int k,x,off,sz,c,cs,hr,hc,h=>by
   simp only[part] at h;split at h
   · rename_i q;injection h with h;subst h;rw[q.1];exact⟨_,cs,rfl,hr,λi u hu=>by rw[add_add,APD];exact hc i u hu⟩
   · cases h
 | .bool,x,off,sz,c,cs,hr,hc,h=>by
   simp only[part] at h;split at h
   · rename_i q;injection h with h;subst h;rw[q.1];exact⟨_,cs,rfl,hr,λi u hu=>by rw[add_add,APD];exact hc i u hu⟩
   · cases h
 | .str,x,off,sz,c,cs,hr,hc,h=>by
   simp only[part] at h;split at h
   · rename_i q;injection h with h;subst h;rw[q.1];exact⟨_,cs,rfl,hr,λi u hu=>by rw[add_add,APD];exact hc i u hu⟩
   · cases h
 | .row e t,x,off,sz,c,cs,hr,hc,h=>by
   simp only[part] at h;split at h
   · rename_i q;injection h with h;subst h;rw[q.1];exact⟨_,cs,rfl,hr,λi u hu=>by rw[add_add,APD];exact hc i u hu⟩
   · cases h
 | .cons p q,x,off,sz,c,cs,hr,hc,h=>by
   simp only[part] at h;split at h
   · rename_i e;injection h with h;subst h;rw[e.1];exact⟨_,cs,rfl,hr,λi u hu=>by rw[add_add,APD];exact hc i u hu⟩
   · obtain⟨c0,c1,rfl,h1,h2⟩:=hr
     have hl:c0.length=p.size:=(by rw[(kd p).Dr h1.K,Ey]);split at h
     · exact Zt h1 (λi u hu=>hc i u (by rw[AN8 (ANN.1 hu).1];exact hu)) h
     · have:=Zt (ad:=ad.add p.size) h2 (λi u hu=>by
        rw[add_add];refine hc _ u ?_;rw[AOG (by omega),<-hu]
        congr 1;omega) h
       rw[add_add] at this
       rwa [show p.size+(off-p.size)=off by omega] at this
section
variable {P:Program} {Θ:JE} {S:FuncId->Option FE} {k:Nat} {o:Oper} {U0:Nat->Prop} {ν:Nat->Value} {tm:List AV} {hp:List AB} {w0:St} {w:World} {a:Act} {R:Type} {K:AV->HC->Tree R} {r:R}
theorem P5 {s:TypeId} {fs:Array Field} {gs:List (Nat × Nat)} {f off sz:Nat} {ad:Addr} (hu:P.underlying s=some (.struct fs)) (hg:fs.toList.map (λf=>(f.offset,((P.info? f.type).map (·.size)).getD 0))=gs) (hf:gs[f]? =some (off,sz)) (hz:sz≠0) :
 (Instr.fieldAt s (.pointer (some ad)) f).run P w= .ok (.pointer (some (ad.add off))) w:=by
 rw[<-hg,APA] at hf;cases hq:fs.toList[f]? with
 | none=>rw[hq] at hf;cases hf
 | some fl =>
   rw[hq] at hf;simp only[APi] at hf;injection hf with hf;injection hf with h1 h2;have yO:fs[f]? =some fl:=(by rw[<-hq];simp);cases hi:P.info? fl.type with
   | none=>rw[hi] at h2;exact absurd h2.symm hz
   | some i =>
     rw[hi] at h2;have h2:i.size=sz:=h2;have hs:(sizeOf fl.type).run P w= .ok sz w:=(by simp[sizeOf,typeInfo,hi,h2]);unfold Instr.fieldAt Instr.sureAddr fieldPlace;simp[run_underlying hu,yO,hs,hz,h1]
theorem iM (hΘ:Θ.ok P=true) (I:Inv U0 ν tm hp w0 a w) {s:TypeId} {x:Operand} {f:Nat} (ho:o.op= .fieldAddr s x f) (h:(stepT Θ S k tm hp o.dst (.fieldAddr s x f) K).run=some r):CX P Θ S k o U0 ν tm hp w0 a w K r:=by
 simp only[stepT] at h;split at h
 · rename_i j off i hx hi
   split at h
   · rename_i fs hk
     split at h
     · rename_i off' sz hf
       split at h
       · cases h
       · rename_i hz
         obtain⟨_,d,_,hd,_,_,hB,_⟩:=BO hΘ hi;rw[hk] at hB;obtain⟨fields,rfl,hg⟩:=Lr hB;obtain⟨hj,g,hν,hv⟩:=val_one (hx▸I.AQ x);refine⟨_,_,h,Ab I (v:= .pointer (some ⟨g,off+off',none⟩)) ?_ (D3 ⟨hj,g,hν,rfl⟩)⟩;simp only[execOp,ho,hv];simp[P5 hd hg hf hz,Hf]
     · cases h
   · cases h
 · rename_i j q off z i hx hi
   split at h
   · rename_i fs hk
     split at h
     · rename_i off' sz hf
       split at h
       · cases h
       · rename_i hz
         obtain⟨_,d,_,hd,_,_,hB,_⟩:=BO hΘ hi;rw[hk] at hB;obtain⟨fields,rfl,hg⟩:=Lr hB;obtain⟨hj,g,n,c,h1,h2,hv⟩:=val_one (hx▸I.AQ x);refine⟨_,_,h,Ab I (v:= .pointer (some ⟨g,q.toNat*z+(off+off'),none⟩)) ?_ (D3 ⟨hj,g,n,c,h1,h2,rfl⟩)⟩;simp only[execOp,ho,hv];simp[P5 hd hg hf hz,Hf,AOt]
     · cases h
   · cases h
 · rename_i t y i hx hi
   split at h
   · rename_i fs hk
     split at h
     · rename_i off' sz hf
       split at h
       · cases h
       · rename_i hz
         split at h
         · rename_i c hc
           obtain⟨_,d,_,hd,_,_,hB,_⟩:=BO hΘ hi;rw[hk] at hB;obtain⟨fields,rfl,hg⟩:=Lr hB;obtain⟨ad,cs,hv,h1,h2⟩:=val_one (hx▸I.AQ x);refine⟨_,_,h,Ab I (v:= .pointer (some (ad.add off'))) ?_ (D3 (Zt h1 h2 hc))⟩;simp only[execOp,ho,hv];simp[P5 hd hg hf hz]
         · cases h
     · cases h
   · cases h
 · cases h
theorem mX (hΘ:Θ.ok P=true) {t e:TypeId} {q z:TI} {d sz n:Nat} {i:Int} {kk:IntKind} {x y:Operand} {ad:Addr} {c:Nat} (ho:o.op= .indexAddr t x y) (hq:ti Θ t=some q) (hk:q.kind= .slice e) (hz:ti Θ e=some z) (hsz:z.size=sz) (hx:a.eval x= .slice (some ad) n c) (hy:a.eval y= .int kk i) (h0:0<=i) (h1:i<n) :
 (execOp a.eval o).run P w= .ok (.value (.pointer (some (ad.add (i.toNat*sz))))) w:=by
 obtain⟨_,d,_,hd,_,_,hB,_⟩:=BO hΘ hq;rw[hk] at hB;rw[IE hB] at hd;obtain⟨f',_,hf',_,hs',_⟩:=BO hΘ hz;have hs:(sizeOf e).run P w= .ok sz w:=by simp[sizeOf,typeInfo,hf',hs',hsz]
 simp only[execOp,ho,hx,hy];have hc:(0:Int)<=i/\i<((n:Nat):Int):=⟨h0,h1⟩;simp[Instr.indexAt,asIntOf,run_underlying hd,hs,hc]
theorem mY (hΘ:Θ.ok P=true) (I:Inv U0 ν tm hp w0 a w) {t:TypeId} {x y:Operand} (ho:o.op= .indexAddr t x y) {q z:TI} {e:TypeId} {t':Ty} {xs:List (T t')} {kk:IntKind} {i:Int} (hq:ti Θ t=some q) (hk:q.kind= .slice e) (hz:ti Θ e=some z) (hsz:z.size=t'.size) (hx : ∃A c,a.eval x= .slice A (List.length xs) c/\Rd (Un U0 ν (lv hp)) w (.row e t') xs [a.eval x]) (hy:AQ tm y= .val [.ro (.int kk) i]) (h0:0<=i) (h1:i<(List.length xs:Int)) :
 Goes P o U0 ν tm hp w0 a w (.val [.rel t' ((xs:List (T t')).getD (i:Int).toNat (dflt t'))]) H0:=by
 have hi:=Fc (hy▸I.AQ y);obtain⟨A,c,dQ,hv⟩:=hx;obtain⟨A',c',AEm,hlc,hm,hrow⟩:=hv;have AEm:=(AOM AEm).1;have wE:=Zs h0 h1;obtain⟨ad,rfl,hel⟩:=hrow wE.2;have GZ:(xs:List (T t'))[(i:Int).toNat]? =some ((xs:List (T t')).getD (i:Int).toNat (dflt t')):=by
  rw[ANJ,ANX wE.1];rfl
 obtain⟨cs,q1,q2⟩:=hel _ _ GZ;exact Ab I (v:= .pointer (some (ad.add ((i:Int).toNat*t'.size)))) (mX (d:=0) hΘ ho hq hk hz hsz AEm hi h0 h1) (D3 ⟨_,cs,rfl,q1,λj u hu=>by rw[add_add];exact q2 j u hu⟩)
theorem wF (hΘ:Θ.ok P=true) {t e:TypeId} {q z:TI} {sz m:Nat} {i:Int} {kk:IntKind} {x y:Operand} {ad:Addr} (ho:o.op= .indexAddr t x y) (hq:ti Θ t=some q) (hk:q.kind= .arr m e) (hz:ti Θ e=some z) (hsz:z.size=sz) (hx:a.eval x= .pointer (some ad)) (hy:a.eval y= .int kk i) (h0:0<=i) (h1:i<m) :
 (execOp a.eval o).run P w= .ok (.value (.pointer (some (ad.add (i.toNat*sz))))) w:=by
 obtain⟨_,d,_,hd,_,_,hB,_⟩:=BO hΘ hq;rw[hk] at hB;rw[Zq hB] at hd;obtain⟨f',_,hf',_,hs',_⟩:=BO hΘ hz;have hs:(sizeOf e).run P w= .ok sz w:=by simp[sizeOf,typeInfo,hf',hs',hsz]
 simp only[execOp,ho,hx,hy];have hc:(0:Int)<=i/\i<((m:Nat):Int):=⟨h0,h1⟩;simp[Instr.indexAt,Instr.sureAddr,asIntOf,run_underlying hd,hs,hc]
theorem iN (hΘ:Θ.ok P=true) (I:Inv U0 ν tm hp w0 a w) {t:TypeId} {x y:Operand} (ho:o.op= .indexAddr t x y) (h:(stepT Θ S k tm hp o.dst (.indexAddr t x y) K).run=some r):CX P Θ S k o U0 ν tm hp w0 a w K r:=by
 simp only[stepT] at h;split at h
 · rename_i e t' xs kk i q hx hy hq
   split at h
   · rename_i e' hk
     split at h
     · rename_i z hz
       split at h
       · rename_i he
         obtain⟨rfl,hsz⟩:=he;obtain⟨h0,h⟩:=Tree.need h;obtain⟨h1,h⟩:=Tree.need h;have hv:=val_one (hx▸I.AQ x);obtain⟨A,c,dQ,hr⟩:=hv.2;exact⟨_,_,h,mY hΘ I ho hq hk hz hsz ⟨A,c,(AOM dQ).1,A,c,dQ,hr⟩ hy h0 h1⟩
       · cases h
     · cases h
   · cases h
 · rename_i j kk i q hx hy hq
   split at h
   · rename_i m e' hk
     split at h
     · rename_i z hz
       split at h
       · rename_i e t' xs hb
         split at h
         · rename_i hsz
           obtain⟨h0,h⟩:=Tree.need h;obtain⟨h1,h⟩:=Tree.need h;obtain⟨h2,h⟩:=Tree.need h;obtain⟨hj,g,n,c,hv,hv'⟩:=val_one (hx▸I.AQ x);have hi:=Fc (hy▸I.AQ y);have wE:=Zs h0 h2;have hn:n=List.length xs:=by
            obtain⟨⟨inner,h4,_⟩,_⟩:=I.mem j _ hb rfl;rcases h4.2 with⟨q1,_⟩ | ⟨g',cap,cur,q1,_⟩
            · rw[q1] at hv;cases hv
            · rw[q1] at hv;injection hv with _ hv _;exact hv.symm
           subst hn;refine⟨_,_,h,Ab I (wF hΘ ho hq hk hz hsz hv' hi h0 h1) (D3 ⟨hj,g,_,c,hv,⟨h0,wE.1⟩,by rw[Hf];simp⟩)⟩
         · cases h
       · cases h
     · cases h
   · cases h
 · rename_i j kk i q hx hy hq
   split at h
   · rename_i e' hk
     split at h
     · rename_i z hz
       split at h
       · rename_i e t' xs hb
         split at h
         · rename_i he
           obtain⟨rfl,hsz⟩:=he;obtain⟨h0,h⟩:=Tree.need h;obtain⟨h1,h⟩:=Tree.need h;obtain⟨hj,hv⟩:=val_one (hx▸I.AQ x);have hi:=Fc (hy▸I.AQ y);have wE:=Zs h0 h1;obtain⟨⟨inner,h4,h5⟩,_⟩:=I.mem j _ hb rfl;rcases h4.2 with⟨q1,q2⟩ | ⟨g,cap,cur,q1,q2,q3,q4,q5,q6,q7⟩
           · have:0<List.length xs:=wE.2
             omega
           · have hv':a.eval x= .slice (some ⟨g,0,none⟩) (List.length xs) cap:=by rw[hv,q1];rfl
             refine⟨_,_,h,Ab I (mX (d:=0) hΘ ho hq hk hz hsz hv' hi h0 h1) (D3 ⟨hj,g,_,cap,by rw[q1];rfl,⟨h0,wE.1⟩,by rw[Hf];simp⟩)⟩
         · cases h
       · rename_i e t' xs hb
         split at h
         · rename_i he
           obtain⟨rfl,hsz⟩:=he;obtain⟨h0,h⟩:=Tree.need h;obtain⟨h1,h⟩:=Tree.need h;obtain⟨hj,hv⟩:=val_one (hx▸I.AQ x);obtain⟨v,e1,hr⟩:=I.mem j _ hb rfl;have hv':a.eval x=v:=(by rw[hv,e1];rfl);subst hv';obtain⟨A,c,dQ,hrr⟩:=hr;exact⟨_,_,h,mY hΘ I ho hq hk hz hsz ⟨A,c,(AOM dQ).1,A,c,dQ,hrr⟩ hy h0 h1⟩
         · cases h
       · cases h
     · cases h
   · cases h
 · cases h
theorem y9 {e:TypeId} {f:TypeInfo} {d:TypeDesc} {n off:Nat} {vs:List Value} (hf:P.info? e=some f) (hd:P.underlying e=some d) (hn:f.size=n) (ha:Ye d=(n !=1)) (hl:off+n<=vs.length):(Go.part e vs.toArray off).run P w= .ok (Ny ((vs.drop off).take n)) w:=by
 unfold Go.part;simp only[Sem.run_bind,WS hd,Result.andThen_ok,ha];by_cases h1:n=1
 · subst h1
   have hlt:off<vs.length:=(by omega);have e1:(vs.drop off).take 1= [vs[off]]:=by
    rw[AO6 hlt];rfl
   simp[e1,Ny,hlt]
 · have hb:(n !=1)=true:=by simpa using h1
   have hs:(sizeOf e).run P w= .ok n w:=(by simp[sizeOf,typeInfo,hf,hn]);rw[WR (by rw[ANO,ANo];omega)];simp[hb,hs]
theorem zB (hΘ:Θ.ok P=true) (I:Inv U0 ν tm hp w0 a w) {t:TypeId} {x y:Operand} (ho:o.op= .index t x y) (h:(stepT Θ S k tm hp o.dst (.index t x y) K).run=some r):CX P Θ S k o U0 ν tm hp w0 a w K r:=by
 simp only[stepT] at h;split at h
 · rename_i q hq
   split at h
   · rename_i hk
     split at h
     · rename_i s kk i hx hy
       obtain⟨h0,h⟩:=Tree.need h;obtain⟨h1,h⟩:=Tree.need h;obtain⟨_,d,_,hd,_,_,hB,_⟩:=BO hΘ hq;rw[hk] at hB;rw[Ue hB] at hd;have hv:=Zp (hx▸I.AQ x);have hi:=Fc (hy▸I.AQ y);have hl:(i:Int).toNat<(s:ByteArray).size:=(Zs h0 h1).1;refine⟨_,_,h,Ab I (v:= .int .u8 (bt s i)) ?_ (Hh .u8 _)⟩;have h0':(0:Int)<=i:=h0;have hg:(s:ByteArray)[(i:Int).toNat]? =some ((s:ByteArray)[(i:Int).toNat]'hl):=(by simp[hl]);simp only[execOp,ho,hv,hi];simp[Instr.index,asIntOf,run_underlying hd,h0',bt,hl]
     · cases h
   · rename_i n e hk
     split at h
     · rename_i cs kk i z hx hy hz
       split at h
       · rename_i hc
         obtain⟨h0,h⟩:=Tree.need h;obtain⟨h1,h⟩:=Tree.need h;obtain⟨_,d,_,hd,_,_,hB,_⟩:=BO hΘ hq;rw[hk] at hB;rw[Zq hB] at hd;obtain⟨f',d',hf',hd',hs',_,_,ha',_⟩:=BO hΘ hz;obtain⟨vs,e1,e2⟩:=(hx▸I.AQ x:Fa U0 ν (lv hp) w (.val cs) (a.eval x));have hlen:=e2.len;have hv:a.eval x= .agg vs.toArray:=(by rw[e1];exact WR (by omega));have hi:=Fc (hy▸I.AQ y);have wE:=Zs h0 h1;have hfit:(i:Int).toNat*z.size+z.size<=vs.length:=by
          rw[<-hlen,hc.1,<-AN9];exact ANV _ wE.1
         refine⟨_,_,h,Ab I (v:=Ny ((vs.drop ((i:Int).toNat*z.size)).take z.size)) ?_ ⟨_,rfl,(e2.drop _).take _⟩⟩;have hp:=y9 (P:=P) (w:=w) (vs:=vs) hf' hd' hs' ha' hfit;have hs:(sizeOf e).run P w= .ok z.size w:=(by simp[sizeOf,typeInfo,hf',hs']);have hcond:(0:Int)<=i/\(i:Int)<((n:Nat):Int):=⟨h0,h1⟩;simp only[execOp,ho,hv,hi];simp[Instr.index,asIntOf,run_underlying hd,hs,hcond,hp]
       · cases h
     · cases h
   · cases h
 · cases h
end
end
section
section
variable {P:Program} {Θ:JE} {S:FuncId->Option FE} {k:Nat} {o:Oper} {U0:Nat->Prop} {ν:Nat->Value} {tm:List AV} {hp:List AB} {w0:St} {w:World} {a:Act} {R:Type} {K:AV->HC->Tree R} {r:R}
theorem eu {e:TypeId} {d:TypeDesc} {vs:List Value} {off:Nat} (hd:P.underlying e=some d) (ha:Ye d=false) (hl:off<vs.length):(Go.part e vs.toArray off).run P w= .ok vs[off] w:=by
 unfold Go.part;simp only[Sem.run_bind,WS hd,Result.andThen_ok,ha];simp[hl]
theorem uM {L:Nat->Prop} {d:Nat} {xs ys:List Value} : ∀(fs:List Field) (ts:List Ty) (n:Nat) (cs ds:List AC) (b:Bool),ec P n ts fs=true->Zl ts cs ds=some b->CD (CW U0 ν L w) cs (xs.drop n)->CD (CW U0 ν L w) ds (ys.drop n)->(Op.eqFields (d+1) xs.toArray ys.toArray fs).run P w= .ok b w
 | [],[],n,cs,ds,b,h1,h2,h3,h4=>by
   cases cs with
   | nil=>cases ds with
     | nil=>injection h2 with h2;subst h2;simp[Op.eqFields]
     | cons _ _=>simp[Zl] at h2
   | cons _ _=>simp[Zl] at h2
 | [],_::_,n,cs,ds,b,h1,h2,h3,h4=>by simp[ec] at h1
 | _::_,[],n,cs,ds,b,h1,h2,h3,h4=>by simp[ec] at h1
 | f::fs,t::ts,n,cs,ds,b,h1,h2,h3,h4=>by
   simp only[ec,ANQ,beq_iff_eq,bne_iff_ne] at h1;obtain⟨⟨⟨q1,q2⟩,q3⟩,q4⟩:=h1;have step : ∀ {c c':AC} {cs' ds':List AC} {r s:Bool},cs=c::cs'->ds=c'::ds'->b=(r&&s)->Zl ts cs' ds'=some s->(∃d0,P.underlying f.type=some d0/\Ye d0=false)->(∀u v,CW U0 ν L w c u->CW U0 ν L w c' v->(Op.equalIn (d+1) f.type u v).run P w= .ok r w)->(Op.eqFields (d+1) xs.toArray ys.toArray (f::fs)).run P w= .ok b w:=by
    rintro c c' cs' ds' r s rfl rfl rfl hs ⟨d0,u1,u2⟩ he;have l3:=h3.len;have l4:=h4.len;rw[ANo,ANt] at l3 l4;have lx:n<xs.length:=(by omega);have ly:n<ys.length:=(by omega);rw[AO6 lx] at h3;rw[AO6 ly] at h4;have ih:=uM (d:=d) fs ts (n+1) cs' ds' s q4 hs h3.2 h4.2;have p1:=eu (P:=P) (w:=w) (vs:=xs) u1 u2 lx;have p2:=eu (P:=P) (w:=w) (vs:=ys) u1 u2 ly;have he:=he _ _ h3.1 h4.1;rw[Op.eqFields];simp only[if_pos q2,Sem.run_bind,q1,p1,p2,he,Result.andThen_ok];cases r
    · simp
    · simpa using ih
   unfold Zl at h2;split at h2
   · rename_i e
     cases e
   · rename_i k ts' k1 m l k2 m' l' e
     injection e with e1 e2;subst e1 e2;split at h2
     · rename_i hk
       obtain⟨rfl,rfl⟩:=hk;split at h2
       · rename_i s hs
         injection h2 with h2;cases hu:P.underlying f.type with
         | none=>simp[hu] at q3
         | some d0 =>
           cases d0<;>simp[hu] at q3
           subst q3;exact step rfl rfl h2.symm hs ⟨_,hu,rfl⟩ λu v h5 h6=>by
            have e1:u= .int _ m:=(AOM h5.2).1;have e2:v= .int _ m':=(AOM h6.2).1;rw[e1,e2];exact run_equalIn_int w d f.type _ _ _ _ hu
       · cases h2
     · cases h2
   · rename_i ts' m l m' l' e
     injection e with e1 e2;subst e1 e2;split at h2
     · rename_i s hs
       injection h2 with h2;cases hu:P.underlying f.type with
       | none=>simp[hu] at q3
       | some d0 =>
         cases d0<;>simp[hu] at q3
         exact step rfl rfl h2.symm hs ⟨_,hu,rfl⟩ λu v h5 h6=>by
          have e1:u= .bool m:=(AOM h5.2).1;have e2:v= .bool m':=(AOM h6.2).1;rw[e1,e2];exact run_equalIn_bool' w d f.type _ _ hu
     · cases h2
   · cases h2
theorem Zu : ∀ {ts:List Ty} {cs ds:List AC} {b:Bool},Zl ts cs ds=some b->cs.length=ts.length/\ds.length=ts.length
 | ts,cs,ds,b,h=>by
   unfold Zl at h;split at h
   · exact⟨rfl,rfl⟩
   · split at h
     · split at h
       · rename_i s hs
         have:=Zu hs;simp only[ANt];omega
       · cases h
     · cases h
   · split at h
     · rename_i s hs
       have:=Zu hs;simp only[ANt];omega
     · cases h
   · cases h
theorem zC (hΘ:Θ.ok P=true) (I:Inv U0 ν tm hp w0 a w) {b:BinOp} {t u:TypeId} {x y:Operand} {i:TI} {xs ys:List AC} {e:Bool} (ho:o.op= .binOp b t x y u) (hi:ti Θ t=some i) (hx:AQ tm x= .val xs) (hy:AQ tm y= .val ys) (h1:1<i.cmp.length) (he:Zl i.cmp xs ys=some e) (h:(P4 b e (λv=>K v H0)).run=some r):CX P Θ S k o U0 ν tm hp w0 a w K r:=by
 have hB:=yf (by cases hc:i.cmp with | nil=>rw[hc] at h1;simp at h1 | cons _ _=>rfl) hΘ hi;unfold eqB at hB;split at hB
 · rename_i fs hu
   simp only[ANQ,AOc] at hB;obtain⟨⟨c1,c2⟩,c3⟩:=hB;obtain⟨vs,e1,r1⟩:=(hx▸I.AQ x:Fa U0 ν (lv hp) w (.val xs) (a.eval x));obtain⟨us,e2,r2⟩:=(hy▸I.AQ y:Fa U0 ν (lv hp) w (.val ys) (a.eval y));have hl:=Zu he;have l1:=r1.len;have l2:=r2.len;rw[WR (by omega)] at e1 e2;have hf:P.fieldsOf t=fs:=(by simp[Program.fieldsOf,hu]);have key:(Op.equalIn 10000 t (.agg vs.toArray) (.agg us.toArray)).run P w= .ok e w:=by
    rw[run_equalIn_struct (P:=P) w 9999 t _ _ (by rw[hf];exact hu) c2,hf];exact uM fs.toList i.cmp 0 xs ys e c1 he r1 r2
   unfold P4 at h;cases b<;>simp only at h<;>first
    | exact(Tree.Gd h).elim
    | exact⟨_,_,h,Ab I (by simp only[execOp,ho,e1,e2];simp[run_eqGuard_agg w _ _ _ _ _ _ c3,run_eql_struct,run_neq_struct,key,Result.andThen]) (Tc _)⟩
 · cases hB
theorem zD (hΘ:Θ.ok P=true) (I:Inv U0 ν tm hp w0 a w) {b:BinOp} {t u:TypeId} {x y:Operand} (ho:o.op= .binOp b t x y u) (h:(stepT Θ S k tm hp o.dst (.binOp b t x y u) K).run=some r):CX P Θ S k o U0 ν tm hp w0 a w K r:=by
 simp only[stepT] at h;split at h
 · rename_i k m k' n hx hy
   have h1:=Fc (hx▸I.AQ x);have h2:=Fc (hy▸I.AQ y);split at h
   · unfold Zk at h
     cases b<;>simp only at h<;>first
      | exact(Tree.Gd h).elim
      | (obtain⟨hn,h⟩:=Tree.need h
         exact⟨_,_,h,Ab I (by simp only[execOp,ho,h1,h2];simp[go_sem,AB9 _ _ _ _ hn,ACA _ _ _ _ hn]) (Hh _ _)⟩)
   · split at h
     · rename_i hk
       subst hk;unfold q8 at h;cases b<;>simp only[wr_eq] at h<;>first
        | exact(Tree.Gd h).elim
        | exact⟨_,_,h,Ab I (by simp only[execOp,ho,h1,h2];simp[go_sem];rfl) (by first | exact Hh _ _ | exact Tc _)⟩
        | (obtain⟨hn,h⟩:=(Tree.Ln h).resolve_left (λq=>Tree.Gd q.2)
           exact⟨_,_,h,Ab I (by simp only[execOp,ho,h1,h2];simp[go_sem,Op.intDiv,hn]) (Hh _ _)⟩)
     · cases h
 · rename_i m n hx hy
   have h1:=Rg (hx▸I.AQ x);have h2:=Rg (hy▸I.AQ y);split at h
   · rename_i i hi
     split at h
     · rename_i hk
       obtain⟨f,d,_,ht,_,_,hd,_⟩:=BO hΘ hi;rw[hk] at hd;rw[wD hd] at ht;unfold iK at h;cases b<;>simp only at h<;>first
        | exact(Tree.Gd h).elim
        | exact⟨_,_,h,Ab I (by simp only[execOp,ho,h1,h2];simp[go_sem,ht];rfl) (by first | exact Hh _ _ | exact Tc _)⟩
     · cases h
   · cases h
 · rename_i m n hx hy
   have h1:=Zp (hx▸I.AQ x);have h2:=Zp (hy▸I.AQ y);split at h
   · rename_i i hi
     split at h
     · rename_i hk
       obtain⟨f,d,_,ht,_,_,hd,_⟩:=BO hΘ hi;rw[hk] at hd;rw[Ue hd] at ht;unfold q9 at h;cases b
       case add =>
        simp only at h;obtain⟨hn,h⟩:=Tree.need h;refine⟨_,_,h,Ab I (v:= .string (m++n)) ?_ (D3 (c:= .ro .str (m++n)) ⟨rfl,rfl⟩)⟩;simp only[execOp,ho,h1,h2];have mZ : ¬((ByteArray.size m+ByteArray.size n:Nat):Int)>IntKind.i64.max:=(by simp only[IntKind.max,IntKind.signed,IntKind.bits];omega);simp[go_sem,ht,Op.stringOp,mZ];omega
       case eql=>exact⟨_,_,h,Ab I (v:= .bool ((m:ByteArray).toList==(n:ByteArray).toList)) (by simp only[execOp,ho,h1,h2];simp[go_sem,ht];done) (Tc _)⟩
       case neq=>exact⟨_,_,h,Ab I (v:= .bool (!((m:ByteArray).toList==(n:ByteArray).toList))) (by simp only[execOp,ho,h1,h2];simp[go_sem,ht];done) (Tc _)⟩
       all_goals exact(Tree.Gd h).elim
     · cases h
   · cases h
 · rename_i j off hx hy
   split at h
   · rename_i i hi
     split at h
     · rename_i hk
       obtain⟨_,g,_,h1⟩:=val_one (hx▸I.AQ x);have h2:a.eval y= .pointer none:=Ud (val_one (hy▸I.AQ y));exact ep hΘ I ho hi hk h1 h2 h
     · cases h
   · cases h
 · rename_i hx hy
   split at h
   · rename_i i hi
     split at h
     · rename_i hk
       have h1:a.eval x= .pointer none:=Ud (val_one (hx▸I.AQ x));have h2:a.eval y= .pointer none:=Ud (val_one (hy▸I.AQ y));exact ep hΘ I ho hi hk h1 h2 h
     · cases h
   · cases h
 · rename_i xs ys hx hy
   split at h
   · rename_i i hi
     split at h
     · rename_i h1
       split at h
       · rename_i e he
         exact zC hΘ I ho hi hx hy h1 he h
       · cases h
     · cases h
   · cases h
 · cases h
end
end
end Go.Proofs.YtjocbnjpjihpnaaGreatW.Gb
end
