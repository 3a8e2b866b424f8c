/- Words for walks over printed functions: those that are used here, as a program has laid them. -/
import Derived.Below
import Derived.Deep.Draws
import Derived.Deep.AppendLies
import Derived.Maps.AppendAt
import Derived.OwnWalk
import Derived.Laws.BytesArg
import Derived.Laws.MakeOwn
import Derived.Laws.OwnMore
import Derived.Deep.OwnRows
import Derived.Tactics
import Derived.Lib.ConvBytes
import Derived.Laws.Slices
import Derived.WalkKit
import Derived.KernelRfl
import Derived.RowKit3
import Derived.Deep.LoopGhost
import Derived.Deep.QuietTactic
import Derived.BigQuiet
import Derived.WideLaws
import Derived.Deep.DeepCutAuto
import Derived.Deep.CutBlock
import Derived.Deep.RegionHeld3
import Derived.Laws.Rows
import Derived.Lib.AppendStr
import Derived.ArgAppend
import Derived.Laws.IdiomCopy
import Derived.RowKit
import Derived.OrdersHeld
import Derived.Laws.BitsLemmas
import Derived.Laws.StructEq
import Derived.SizedLaws
import Derived.ChangeSlices
namespace Go.Proofs
abbrev APp:=@List.mem_cons_of_mem
abbrev APq:=@List.mem_cons_self
abbrev APr:=@Int.toNat_natCast
abbrev APs:=@Int.le_of_lt
abbrev APt:=@List.getD_eq_getElem?_getD
abbrev APu:=@List.mem_append_right
abbrev APv:=@List.mem_cons
abbrev APw:=@List.getElem?_eq_some_iff
abbrev APx:=@List.length_take
abbrev APy:=@List.mem_append_left
abbrev APz:=@Bool.and_eq_true
abbrev AP0:=@Int.eq_ofNat_of_zero_le
abbrev AP1:=@Nat.le_refl
abbrev AP2:=@Int.mul_le_mul_of_nonneg_right
abbrev AP3:=@List.length_append
abbrev AP4:=@List.getElem?_eq_getElem
abbrev AP5:=@List.take_of_length_le
abbrev AP6:=@Int.mul_comm
abbrev AP7:=@Int.mul_nonneg
abbrev AP8:=@Nat.mul_le_mul_right
abbrev AP9:=@Int.mul_ediv_add_emod
abbrev AQA:=@Int.pow_zero
abbrev AQB:=@Nat.min_eq_left
abbrev AQC:=@Int.ediv_nonneg
abbrev AQD:=@Int.mul_le_mul_of_nonneg_left
abbrev AQE:=@List.getElem?_set_ne
abbrev AQF:=@List.getElem?_take
abbrev AQG:=@Int.emod_lt_of_pos
abbrev AQH:=@Int.pow_succ
abbrev AQI:=@List.getElem?_drop
abbrev AQJ:=@Int.emod_nonneg
abbrev AQK:=@Int.pow_add
abbrev AQL:=@Int.ediv_lt_iff_lt_mul
abbrev AQM:=@List.mem_append
abbrev AQN:=@List.drop_eq_nil_of_le
abbrev AQO:=@List.getElem?_eq_none
abbrev AQP:=@List.map_cons
abbrev AQQ:=@Int.mul_one
abbrev AQR:=@List.length_drop
abbrev AQS:=@Nat.lt_or_ge
abbrev AQT:=@Int.mul_assoc
abbrev AQU:=@Int.emod_eq_of_lt
abbrev AQV:=@Int.ediv_eq_zero_of_lt
abbrev AQW:=@List.length_cons
abbrev AQX:=@List.all_eq_true
abbrev AQY:=@List.mem_map
abbrev AQZ:=@Array.getD_eq_getD_getElem?
abbrev AQa:=@Int.ediv_ediv_of_nonneg
abbrev AQb:=@List.length_set
abbrev AQc:=@List.eq_nil_of_length_eq_zero
abbrev AQd:=@Int.tdiv_eq_ediv_of_nonneg
abbrev AQe:=@List.getElem?_set_self
abbrev AQf:=@Int.lt_or_le
abbrev AQg:=@List.getElem?_append_left
abbrev AQh:=@Nat.succ_mul
abbrev AQi:=@List.length_map
abbrev AQj:=@Int.add_mul_ediv_left
abbrev AQk:=@Nat.lt_of_lt_of_le
abbrev AQl:=@Option.map_eq_some_iff
abbrev AQm:=@Int.le_ediv_iff_mul_le
abbrev AQn:=@List.map_congr_left
abbrev AQo:=@Array.getElem?_eq_some_iff
abbrev AQp:=@Nat.le_trans
abbrev AQq:=@List.getElem?_append_right
abbrev AQr:=@Int.tmod_eq_emod_of_nonneg
abbrev AQs:=@Int.ediv_one
abbrev AQt:=@Int.add_mul_emod_self_left
abbrev AQu:=@List.map_append
abbrev AQv:=@Int.ediv_le_self
abbrev AQw:=@Int.mul_lt_mul_of_pos_right
abbrev AQx:=@Option.bind_some
abbrev AQy:=@List.ext_getElem?
abbrev AQz:=@List.nodup_cons
abbrev AQ0:=@Int.mul_pos
abbrev AQ1:=@Int.mul_zero
abbrev AQ2:=@Int.add_zero
abbrev AQ3:=@List.take_length
abbrev AQ4:=@List.prefix_refl
abbrev AQ5:=@List.getElem_mem
abbrev AQ6:=@List.append_assoc
abbrev AQ7:=@List.mem_range
abbrev AQ8:=@List.length_replicate
abbrev AQ9:=@List.getElem?_cons_succ
abbrev ARA:=@List.getElem?_replicate
abbrev ARB:=@List.take_append_of_le_length
abbrev ARC:=@List.append_nil
abbrev ARD:=@Int.zero_mul
abbrev ARE:=@List.cons.inj
abbrev ARF:=@List.getElem?_cons_zero
abbrev ARG:=@Bool.not_eq_true'
abbrev ARH:=@List.flatMap_cons
abbrev ARI:=@Int.mul_emod_right
abbrev ARJ:=@Bool.or_eq_true
abbrev ARK:=@List.drop_append_of_le_length
abbrev ARL:=@Int.one_mul
abbrev ARM:=@List.take_append_drop
abbrev ARN:=@Option.bind_eq_some_iff
abbrev ARO:=@Nat.le_mul_of_pos_right
abbrev ARP:=@List.contains_eq_mem
abbrev ARQ:=@List.mem_flatMap
abbrev ARR:=@Int.mul_lt_mul_of_pos_left
abbrev ARS:=@Int.neg_mul
abbrev ART:=@Int.mul_add
abbrev ARU:=@Nat.add_assoc
abbrev ARV:=@Int.emod_one
abbrev ARW:=@List.mem_singleton
abbrev ARX:=@Int.pow_one
abbrev ARY:=@Int.add_mul
abbrev ARZ:=@Int.mul_emod_mul_of_pos
abbrev ARa:=@Int.add_comm
abbrev ARb:=@List.flatMap_append
abbrev ARc:=@List.drop_of_length_le
abbrev ARd:=@List.setIfInBounds_toArray
abbrev ARe:=@Int.eq_of_mul_eq_mul_right
abbrev ARf:=@List.set_cons_succ
abbrev ARg:=@Bool.false_eq_true
abbrev ARh:=@List.drop_zero
abbrev ARi:=@List.take_succ_eq_append_getElem
abbrev ARj:=@List.getElem?_append
abbrev ARk:=@List.nil_append
abbrev ARl:=@List.getElem?_map
abbrev ARm:=@Nat.mul_comm
abbrev ARn:=@Int.le_trans
abbrev ARo:=@Prod.mk.injEq
abbrev ARp:=@List.drop_append
abbrev ARq:=@List.foldlM_cons
abbrev ARr:=@Nat.eq_zero_or_pos
abbrev ARs:=@Nat.add_sub_cancel
abbrev ARt:=@List.length_singleton
abbrev ARu:=@Option.some.inj
abbrev ARv:=@List.foldlM_nil
abbrev ARw:=@Int.natCast_mul
abbrev ARx:=@Nat.zero_add
abbrev ARy:=@List.length_nil
abbrev ARz:=@Option.some.injEq
abbrev AR0:=@List.getElem?_set
abbrev AR1:=@Int.lt_trichotomy
abbrev AR2:=@List.mem_of_mem_take
abbrev AR3:=@List.mem_of_mem_drop
abbrev AR4:=@Int.le_of_lt_add_one
abbrev AR5:=@List.take_take
abbrev AR6:=@Array.getElem?_eq_getElem
abbrev AR7:=@List.drop_eq_getElem_cons
abbrev AR8:=@List.take_zero
abbrev AR9:=@Option.getD_some
abbrev ASA:=@List.cons_append
abbrev ASB:=@List.getElem_map
abbrev ASC:=@Nat.add_mul
abbrev ASD:=@List.getElem?_range
abbrev ASE:=@Nat.testBit_two_pow
abbrev ASF:=@List.take_succ_cons
abbrev ASG:=@List.getElem_of_mem
abbrev ASH:=@List.getElem?_take_of_lt
abbrev ASI:=@Int.mul_ediv_cancel_left
abbrev ASJ:=@List.all_cons
abbrev ASK:=@List.mem_singleton_self
abbrev ASL:=@Array.getElem?_eq_none
abbrev ASM:=@Nat.testBit_lt_two_pow
abbrev ASN:=@Nat.zero_le
abbrev ASO:=@List.nodup_append
abbrev ASP:=@Nat.Coprime.dvd_of_dvd_mul_left
abbrev ASQ:=@List.drop_take
abbrev ASR:=@Nat.testBit_or
abbrev ASS:=@List.drop_drop
abbrev AST:=@Int.mul_le_mul
abbrev ASU:=@Nat.div_lt_iff_lt_mul
abbrev ASV:=@List.mem_iff_getElem?
abbrev ASW:=@Nat.add_comm
abbrev ASX:=@Array.getElem?_append
abbrev ASY:=@Int.zero_sub
abbrev ASZ:=@Int.zero_add
abbrev ASa:=@Nat.mod_eq_of_lt
abbrev ASb:=@List.map_toArray
abbrev ASc:=@Array.toList_inj
abbrev ASd:=@List.mem_iff_getElem
abbrev ASe:=@Int.ediv_emod_unique
abbrev ASf:=@Nat.eq_of_testBit_eq
abbrev ASg:=@List.replicate_succ'
abbrev ASh:=@Nat.lt_irrefl
abbrev ASi:=@Int.mul_ediv_mul_of_pos_left
abbrev ASj:=@Array.length_toList
abbrev ASk:=@Option.map_some
abbrev ASl:=@List.range_succ
abbrev ASm:=@Nat.two_pow_add_eq_or_of_lt
abbrev ASn:=@Int.mul_eq_zero
abbrev ASo:=@Int.natCast_pow
abbrev ASp:=@Int.le_refl
abbrev ASq:=@Int.mul_ediv_cancel
abbrev ASr:=@Array.toList_setIfInBounds
abbrev ASs:=@Int.lt_of_mul_lt_mul_right
abbrev ASt:=@List.map_nil
abbrev ASu:=@Nat.add_zero
abbrev ASv:=@List.set_cons_zero
abbrev ASw:=@Nat.sub_self
abbrev ASx:=@Int.add_emod_right
abbrev ASy:=@List.drop_left
abbrev ASz:=@Ne.symm
abbrev AS0:=@List.mapM_cons
abbrev AS1:=@List.nodup_nil
abbrev AS2:=@List.mem_or_eq_of_mem_set
abbrev AS3:=@Int.mul_neg_of_neg_of_pos
abbrev AS4:=@Array.setIfInBounds_comm
abbrev AS5:=@Nat.lt_trichotomy
abbrev AS6:=@Int.mul_emod_left
abbrev AS7:=@Int.mul_tdiv_cancel_left
abbrev AS8:=@List.eq_of_mem_replicate
abbrev AS9:=@Nat.mul_one
abbrev ATA:=@List.getLast?_cons_cons
abbrev ATB:=@Int.zero_ediv
abbrev ATC:=@List.length_eq_one_iff
abbrev ATD:=@List.range_succ_eq_map
abbrev ATE:=@Array.getElem?_toList
abbrev ATF:=@List.set_append_right
abbrev ATG:=@Nat.div_add_mod
abbrev ATH:=@Nat.le_total
abbrev ATI:=@Rat.divInt_mul_divInt
abbrev ATJ:=@Int.sub_mul
abbrev ATK:=@List.drop_nil
abbrev ATL:=@Int.ediv_zero
abbrev ATM:=@Array.ext'
abbrev ATN:=@Bool.true_or
abbrev ATO:=@List.map_map
abbrev ATP:=@Int.emod_def
abbrev ATQ:=@Nat.gcd_comm
end Go.Proofs
set_option linter.unusedSimpArgs false
section
set_option linter.unusedVariables false
set_option linter.unusedSimpArgs false
namespace Go.Proofs.YtjocbnjpjihpnaaGreatW.AD
open Go.RowKit
structure Bn (p:Prop):Prop where mk::(out:p)
structure Ge (w w':World):Prop where mk::(out : ∃n,w'=w.drewN n)
theorem Ge.refl (w:World):Ge w w:=⟨⟨0,rfl⟩⟩
theorem Ge.step {w w':World} (h:Ge w w') (n:Nat):Ge w (w'.drewN n):=by
 obtain⟨m,rfl⟩:=h;exact⟨⟨m+n,World.drewN_drewN ..⟩⟩
theorem Ge.grown {w w':World} (h:Ge w w'):Grown w w':=by
 obtain⟨n,rfl⟩:=h;induction n with
 | zero=>exact Grown.refl _
 | succ n ih=>rw[<-World.drew_drewN];exact Grown.drew ih
theorem Ge.below {w w':World} (h:Ge w w'):Below w.heap.size w w':=by
 obtain⟨n,rfl⟩:=h;induction n with
 | zero=>exact Below.refl _ _
 | succ n ih=>rw[<-World.drew_drewN];exact ih.drew
def rd (xs:List Int) (i:Int):Int:=xs.getD i.toNat 0
def bt (s:ByteArray) (i:Int):Int:=if h:i.toNat<s.size then((s[i.toNat]'h).toNat:Int) else 0
theorem BK {w W:World} (h:Below w.heap.size w W) (o:Obj):Below w.heap.size w (W.alloc o):=h.alloc h.size o
theorem bu {B:Nat} {w W:World} (h:Below B w W):Below B w W.drew:=⟨h.os,h.tape,h.output,h.size,h.block⟩
theorem At {B:Nat} {w W:World} (h:Below B w W) (n:Nat):Below B w (W.drewN n):=⟨h.os,h.tape,h.output,h.size,h.block⟩
theorem u5 {B:Nat} {w w1 w2:World} (h:Below B w w1) (hB:B<=w1.heap.size) (k:Below w1.heap.size w1 w2):Below B w w2 :=
 h.trans ⟨k.os,k.tape,k.output,k.size,λi hi=>k.block i (AQk hi hB)⟩
theorem b9 {w w1:World} (h:Below w.heap.size w w1) (row:Option Nat):w.grownBy w1 row:=⟨h.os,h.tape,h.output,h.size,λi hi _=>h.block i hi⟩
theorem Ns {w w1:World} (h:Below w.heap.size w w1) {a:Addr} {v:Value} (hc:w.cell? a=some v):w1.cell? a=some v:=(h.cell (World.block_lt_of_cell? w a hc)).trans hc
def Ef (w:World) (k:IntKind) (A:Option Addr) (n:Nat) (xs:List Int):Prop :=
 xs.length=n/\n<=9223372036854775807/\(0<n-> ∃ad,A=some ad/\ ∀j,j<n->w.cell? (ad.add j)=some (.int k (xs.getD j 0)))
theorem Ef.at_ {w:World} {k:IntKind} {A:Option Addr} {n:Nat} {xs:List Int} (h:Ef w k A n xs) (i:Int) (h0:0<=i) (h1:i<n) : ∃ad,A=some ad/\w.cell? (ad.add i.toNat)=some (.int k (rd xs i)):=by
 obtain⟨ad,e,hc⟩:=h.2.2 (by omega);exact⟨ad,e,hc _ (by omega)⟩
theorem Ef.below {w w1:World} {k:IntKind} {A:Option Addr} {n:Nat} {xs:List Int} (h:Ef w k A n xs) (hb:Below w.heap.size w w1):Ef w1 k A n xs :=
 ⟨h.1,h.2.1,λhn=>by
   obtain⟨ad,e,hc⟩:=h.2.2 hn;exact⟨ad,e,λj hj=>Ns hb (hc j hj)⟩⟩
theorem Vu {w:World} {base:Nat} {e:TypeId} {size n:Nat} {v:Value} {xs:List Value} (h:w.ownsRow base e size v n xs) (k:Nat) (hk:v.ownBlock=some k):base<=k:=by
 rcases h.2 with⟨rfl,_⟩ | ⟨g,cap,cur,rfl,hb,_⟩
 · simp[Value.ownBlock] at hk
 · have:g=k:=by simpa[Value.ownBlock] using hk
   omega
theorem ABS {w:World} {base:Nat} {e:TypeId} {size n:Nat} {v:Value} {xs:List Value} (h:w.ownsRow base e size v n xs) (k:Nat) (hk:v.ownBlock=some k):k<w.heap.size:=by
 rcases h.2 with⟨rfl,_⟩ | ⟨g,cap,cur,rfl,hb,hh,_⟩
 · simp[Value.ownBlock] at hk
 · have:g=k:=by simpa[Value.ownBlock] using hk
   subst this;exact(AQo.1 hh).1
theorem lO {w w1:World} {base:Nat} {e:TypeId} {size n:Nat} {v:Value} {xs:List Value} (h:w.ownsRow base e size v n xs) (hb:Below w.heap.size w w1):w1.ownsRow base e size v n xs :=
 h.kept (b9 hb none) (by cases v.ownBlock<;>simp)
theorem AAF {w w1:World} {base:Nat} {e:TypeId} {size n:Nat} {v:Value} {xs:List Value} (h:w.ownsRow base e size v n xs) {row:Option Nat} (hg:w.grownBy w1 row) (hne:v.ownBlock=none\/v.ownBlock≠row):w1.ownsRow base e size v n xs:=h.kept hg hne
theorem AAG {w:World} {base n:Nat} {e:TypeId} {size:Nat} {v:Value} {xs:List Value} (h:w.ownsRow base e size v n xs) : ∃A c,v= .slice A n c:=by
 rcases h.2 with⟨rfl,rfl⟩ | ⟨g,cap,cur,rfl,_⟩
 · exact⟨none,0,rfl⟩
 · exact⟨_,cap,rfl⟩
section
variable {P:Program} {ops:Array Oper} {rest:List Oper} {o:Oper} {a:Act} {Q:Exit->Act->World->Prop}
end
section
variable {P:Program}
end
section
variable {P:Program} {ops:Array Oper} {rest:List Oper} {o:Oper} {a:Act} {Q:Exit->Act->World->Prop}
end
theorem Ef.yK {w:World} {k:IntKind} {A:Option Addr} {n:Nat} {xs:List Int} (h:Ef w k A n xs) (i:Nat) (hi:i<=n):Ef w k A i (xs.take i):=by
 refine⟨by rw[APx,h.1];omega,by have:=h.2.1;omega,λhp=> ?_⟩;obtain⟨ad,e,hc⟩:=h.2.2 (by omega);refine⟨ad,e,λj hj=> ?_⟩;rw[hc j (by omega)];simp[APt,hj]
def Yr {α:Type} (a b:Option α):Prop:= ∀r,a=some r->b=some r
theorem Yr.refl {α:Type} (a:Option α):Yr a a:=λ_ h=>h
theorem Yr.none {α:Type} (b:Option α):Yr Option.none b:=λ_ h=>by cases h
theorem Yr.trans {α:Type} {a b c:Option α} (h:Yr a b) (k:Yr b c):Yr a c:=λr hr=>k r (h r hr)
theorem Yr.ite {α:Type} {c:Prop} [Decidable c] {a a' b b':Option α} (h:Yr a a') (k:Yr b b'):Yr (if c then a else b) (if c then a' else b'):=by
 split
 · exact h
 · exact k
theorem Yr.bind {α β:Type} {a a':Option α} {f f':α->Option β} (h:Yr a a') (k : ∀x,Yr (f x) (f' x)):Yr (a.bind f) (a'.bind f'):=by
 intro r hr;obtain⟨x,hx,hf⟩:=ARN.1 hr;exact ARN.2 ⟨x,h x hx,k x r hf⟩
theorem Yr.map {α β:Type} {a a':Option α} (f:α->β) (h:Yr a a'):Yr (a.map f) (a'.map f):=by
 intro r hr;obtain⟨x,hx,hf⟩:=AQl.1 hr;exact AQl.2 ⟨x,h x hx,hf⟩
theorem Ys {α:Type} {g:Nat->Option α} (h : ∀k,Yr (g k) (g (k+1))) (k:Nat) : ∀j,Yr (g k) (g (k+j))
 | 0=>Yr.refl _
 | j+1=>(Ys h k j).trans (h (k+j))
theorem X3 {α:Type} {g:Nat->Option α} (h : ∀k,Yr (g k) (g (k+1))) {k k':Nat} (hk:k<=k') {r:α} (hr:g k=some r):g k'=some r:=by
 have:=Ys h k (k'-k) r hr
 rwa [Nat.add_sub_cancel' hk] at this
theorem AIn {α β:Type} {g:Nat->Option α} {f:Nat->Option β} (hg : ∀k,Yr (g k) (g (k+1))) (hf : ∀k,Yr (f k) (f (k+1))) {r:α} {q:β} (h : ∃k,g k=some r) (h' : ∃k,f k=some q) : ∃k,g k=some r/\f k=some q:=by
 obtain⟨k,hk⟩:=h;obtain⟨k',hk'⟩:=h';exact⟨max k k',X3 hg (Nat.le_max_left _ _) hk,X3 hf (Nat.le_max_right _ _) hk'⟩
def Bw {α:Type} (R:α->List Value->Prop) (size:Nat) (ps:List α) (cs:List Value):Prop :=
 cs.length=ps.length*size/\ ∀j p,ps[j]? =some p->R p ((cs.drop (j*size)).take size)
theorem Bw.none {α:Type} (R:α->List Value->Prop) (size:Nat):Bw R size [] []:=⟨by simp,λj p h=>by simp at h⟩
theorem Bw.snoc {α:Type} {R:α->List Value->Prop} {size:Nat} {ps:List α} {cs c:List Value} {p:α} (h:Bw R size ps cs) (hp:R p c) (hc:c.length=size):Bw R size (ps++ [p]) (cs++c):=by
 refine⟨by rw[AP3,h.1,hc,AP3,ARt,ASC,Nat.one_mul],λj q hq=> ?_⟩;rcases AQS j ps.length with hj | hj
 · rw[AQg hj] at hq
   have h1:j*size+size<=cs.length:=(by rw[h.1,<-AQh];exact AP8 _ hj);have h2:=h.2 j q hq;rw[ARK (by omega),ARB (by rw[AQR];omega)];exact h2
 · have hj':j=ps.length:=by
    have:=(APw.1 hq).1;rw[AP3,ARt] at this;omega
   subst hj';have hq':p=q:=(by simpa using hq);subst hq';rw[<-h.1,ASy,<-hc,AQ3];exact hp
theorem Bw.HW {α:Type} {R R':α->List Value->Prop} {size:Nat} {ps:List α} {cs:List Value} (h:Bw R size ps cs) (hR : ∀p c,R p c->R' p c):Bw R' size ps cs:=⟨h.1,λj p hj=>hR _ _ (h.2 j p hj)⟩
def E7 {α:Type} (R:α->List Value->Prop) (size:Nat) (w:World) (A:Option Addr) (n:Nat) (ps:List α):Prop :=
 ps.length=n/\n<=9223372036854775807/\(0<n-> ∃ad,A=some ad/\ ∀j p,ps[j]? =some p-> ∃c,c.length=size/\R p c/\ ∀i u,c[i]? =some u->w.cell? (ad.add (j*size+i))=some u)
theorem E7.HW {α:Type} {R R':α->List Value->Prop} {size:Nat} {w w1:World} {A:Option Addr} {n:Nat} {ps:List α} (h:E7 R size w A n ps) (hb:Below w.heap.size w w1) (hR : ∀p c,R p c->R' p c):E7 R' size w1 A n ps :=
 ⟨h.1,h.2.1,λhn=>by
   obtain⟨ad,e,hc⟩:=h.2.2 hn;refine⟨ad,e,λj p hj=> ?_⟩;obtain⟨c,hs,hr,hcell⟩:=hc j p hj;exact⟨c,hs,hR _ _ hr,λi u hu=>Ns hb (hcell i u hu)⟩⟩
theorem gz {α:Type} {R:α->List Value->Prop} {w:World} {base n size:Nat} {e:TypeId} {v:Value} {ps:List α} {cs:List Value} (h:w.ownsRow base e size v n cs) (hR:Bw R size ps cs) (hn:ps.length=n) :
 ∃A c,v= .slice A n c/\E7 R size w A n ps:=by
 rcases ARr n with h0 | h0
 · rcases h.2 with⟨rfl,rfl⟩ | ⟨g,cap,cur,rfl,_⟩
   · exact⟨none,0,rfl,hn,by omega,λhp=>absurd hp (by omega)⟩
   · exact⟨_,cap,rfl,hn,by omega,λhp=>absurd hp (by omega)⟩
 · obtain⟨g,cap,rfl,_,_⟩:=h.form h0
   have hm:n<=9223372036854775807:=by
    rcases h.2 with⟨_,h1⟩ | ⟨g',cap',cur,he,_,_,h1,h2,_⟩
    · omega
    · simp only[maxLen] at h2
      omega
   refine⟨_,cap,rfl,hn,hm,λ_=>⟨_,rfl,λj p hj=>⟨(cs.drop (j*size)).take size, ?_,hR.2 j p hj,λi u hu=> ?_⟩⟩⟩
   · have hjl:=(APw.1 hj).1
     have h1:j*size+size<=cs.length:=(by rw[hR.1,<-AQh];exact AP8 _ hjl);rw[APx,AQR];omega
   · refine h.cells (g:=g) rfl _ u ?_
     rw[AQF] at hu;split at hu
     · rw[AQI] at hu
       exact hu
     · cases hu
section
variable {P:Program} {ops:Array Oper} {rest:List Oper} {o:Oper} {a:Act} {Q:Exit->Act->World->Prop}
theorem MB {w0 W:World} (base:Nat) (hgd:o.guard=none) (s x:Operand) (t e:TypeId) (z:Value) (size bytes:Nat)
 (ho:o.op= .call {callee:= .builtin .append,args:= #[s,x],argTypes:= #[t,t]})
 (ht:P.underlying t=some (.slice e)) (hinfo:(P.info? e).map (λi=>(i.zero,i.size,i.bytes))=some (some z,size,bytes)) (hz:z.cells.size=size) (hs0:0<size) (hb0:0<bytes)
 (v:Value) (n:Nat) (xs ys:List Value) (hs:a.eval s=v) (hx:a.eval x= .slice (some ⟨W.heap.size,0,none⟩) 1 1) (hys:ys.length=size) (h1 : ∀u∈ys,u.oneCell'=true)
 (HO:W.ownsRow base e size v n xs) (HB:Below base w0 W) (hbase:base<=W.heap.size) (hl:(n+1)*bytes<=140737488355328)
 (h : ∀v1 w1,w1.ownsRow base e size v1 (n+1) (xs++ys)->Below base w0 w1->W.grownBy w1 v.ownBlock->(v1.ownBlock=v.ownBlock\/ ∃b,v1.ownBlock=some b/\W.heap.size<=b)->wpList P ops Q rest (a.put o.dst v1) w1) :
 wpList P ops Q (o::rest) a (W.alloc (.cells ys.toArray e)):=by
 obtain⟨i0,hi,hzz⟩:=AQl.1 hinfo;simp only[ARo] at hzz;obtain⟨uk,hz1,hz2⟩:=hzz;have hlen:n+1<=140737488355328:=AQp (ARO _ hb0) hl;refine wpList_append_own_at (W.alloc (.cells ys.toArray e)) hgd s x t ho base e i0 z size bytes ht hi uk hz1 hz2 hz hs0 v n xs hs (HO.alloc _) ⟨W.heap.size,0,none⟩ 1 1 ys hx (by rw[hys];simp)
  (by simpa using World.news_of_block (cs:=ys.toArray) (t:=e) (fr:=(0,0)) (heap_alloc_new W (.cells ys.toArray e))) h1 (by simp only[maxLen];omega) hl (by simp;omega) ?_
 intro v1 w1 hown hg _ Nt;refine h v1 w1 hown ((HB.alloc hbase _).grown hg (by simp;omega) (Vu HO)) (World.grownBy.trans (World.grownBy_alloc W _ _) hg) ?_;rcases Nt with Nt | Nt
 · exact .inl Nt
 · exact .inr ⟨_,Nt,by simp⟩
end
theorem AG3 {w:World} {base:Nat} {e t:TypeId} {size n g:Nat} {v:Value} {xs:List Value} {cs:Array Value} (h:w.ownsRow base e size v n xs) (hg:w.heap[g]? =some (.cells cs t (0,0))) (hne:e≠t):some g≠v.ownBlock:=by
 rcases h.2 with⟨rfl,_⟩ | ⟨g',cap,cur,rfl,_,hh,_⟩
 · simp[Value.ownBlock]
 · intro he
   have:g=g':=(by simpa[Value.ownBlock] using he);subst this;rw[hg] at hh;injection hh with hh;injection hh with _ ht;exact hne ht.symm
theorem yL {w:World} {g:Nat} {t:TypeId} {cs:Array Value} (h:w.heap[g]? =some (.cells cs t (0,0))) (i:Nat) (u:Value):(w.setCell ⟨g,i,none⟩ u).heap[g]? =some (.cells (cs.setIfInBounds i u) t (0,0)):=by
 simp[World.setCell,Array.getElem?_modify,h]
theorem cA {w:World} {g:Nat} {o:Obj} (h:w.heap[g]? =some o):g<w.heap.size:=(AQo.1 h).1
theorem Ks {w:World} {g:Nat} {t:TypeId} {cs:Array Value} (h:w.heap[g]? =some (.cells cs t (0,0))) (i:Nat):w.cell? ⟨g,i,none⟩=cs[i]? :=cell_of_row w g i cs t (0,0) h
theorem cB {w:World} {g:Nat} {t:TypeId} {cs:Array Value} (h:w.heap[g]? =some (.cells cs t (0,0))) (i:Nat):w.frozen? ⟨g,i,none⟩=false:=by simp[World.frozen?,h]
def FH (w w':World) (g:Nat) (row:Option Nat):Prop:=w.heap.size<=w'.heap.size/\ ∀i,i<w.heap.size->i≠g->some i≠row->w'.heap[i]? =w.heap[i]?
theorem FH.refl (w:World) (g:Nat) (row:Option Nat):FH w w g row:=⟨AP1 _,λ_ _ _ _=>rfl⟩
theorem FH.qK {w w1:World} (h:Below w.heap.size w w1) (g:Nat) (row:Option Nat):FH w w1 g row:=⟨h.size,λi hi _ _=>h.block i hi⟩
theorem FH.trans {w w1 w2:World} {g:Nat} {row AG4:Option Nat} (h:FH w w1 g row) (k:FH w1 w2 g AG4) (hr:AG4=row\/ ∃b,AG4=some b/\w.heap.size<=b):FH w w2 g row :=
 ⟨AQp h.1 k.1,λi hi hg hn=>by
   refine(k.2 i (AQk hi h.1) hg ?_).trans (h.2 i hi hg hn);rcases hr with rfl | ⟨b,rfl,hb⟩
   · exact hn
   · intro e
     injection e with e;omega⟩
theorem FH.DO {w w1:World} {g g':Nat} {row:Option Nat} {o:Obj} (h:FH w w1 g row) (hb:w.heap[g']? =some o) (hg:g'≠g) (hr:some g'≠row):w1.heap[g']? =some o:=(h.2 g' (cA hb) hg hr).trans hb
theorem FH.own {w w1:World} {g:Nat} {row:Option Nat} {base:Nat} {e:TypeId} {size n:Nat} {v:Value} {xs:List Value} (h:FH w w1 g row) (ho:w.ownsRow base e size v n xs) (hg:v.ownBlock≠some g) (hr:v.ownBlock=none\/v.ownBlock≠row):w1.ownsRow base e size v n xs:=by
 obtain⟨h1,h2⟩:=ho;refine⟨h1, ?_⟩;rcases h2 with h2 | ⟨b,cap,cur,rfl,hb,hh,r⟩
 · exact .inl h2
 · refine .inr ⟨b,cap,cur,rfl,hb,h.DO hh ?_ ?_,r⟩
   · intro e
     exact hg (by rw[<-e];rfl)
   · rcases hr with hr | hr
     · simp[Value.ownBlock] at hr
     · exact hr
def Ev {α:Type} (g:Nat->Option α) (r:α):Prop:= ∃K,∀k,K<=k->g k=some r
theorem Ev.of {α:Type} {g:Nat->Option α} {r:α} (hg : ∀k,Yr (g k) (g (k+1))) {k:Nat} (h:g k=some r):Ev g r:=⟨k,λ_ hk=>X3 hg hk h⟩
theorem Ev.now {α:Type} (r:α):Ev (λ_=>some r) r:=⟨0,λ_ _=>rfl⟩
theorem Ev.rounds {α:Type} {g:Nat->Option α} {r:α} (h:Ev g r) : ∃k,g k=some r:=by
 obtain⟨K,h⟩:=h;exact⟨K,h K (AP1 _)⟩
theorem Ev.bind {α β:Type} {g:Nat->Option α} {f:Nat->α->Option β} {a:α} {r:β} (h:Ev g a) (k:Ev (λn=>f n a) r):Ev (λn=>(g n).bind (f n)) r:=by
 obtain⟨K,h⟩:=h;obtain⟨K',k⟩:=k;refine⟨max K K',λn hn=> ?_⟩;have h1:=h n (by omega);have h2:=k n (by omega);simp only[h1,AQx];exact h2
theorem Ev.step {α:Type} {g f:Nat->Option α} {r:α} (h : ∀k,g (k+1)=f k) (k:Ev f r):Ev g r:=by
 obtain⟨K,k⟩:=k;refine⟨K+1,λn hn=> ?_⟩;obtain⟨m,rfl⟩ : ∃m,n=m+1:=⟨n-1,by omega⟩;rw[h];exact k m (by omega)
theorem Ev.congr {α:Type} {g f:Nat->Option α} {r:α} (h : ∀k,g k=f k) (k:Ev f r):Ev g r:=by
 obtain⟨K,k⟩:=k;exact⟨K,λn hn=>(h n).trans (k n hn)⟩
section
variable {P:Program} {ops:Array Oper} {o:Oper} {a:Act} {Q:Exit->Act->World->Prop} {K:Act->World->Prop}
end
theorem cC {w:World} {base base':Nat} {e:TypeId} {size n:Nat} {v:Value} {xs:List Value} (h:w.ownsRow base e size v n xs) (hb:base'<=base):w.ownsRow base' e size v n xs:=by
 obtain⟨h1,h2⟩:=h;refine⟨h1, ?_⟩;rcases h2 with h2 | ⟨g,cap,cur,rfl,hg,r⟩
 · exact .inl h2
 · exact .inr ⟨g,cap,cur,rfl,AQp hb hg,r⟩
section
variable {α:Type} {enc:α->Value} {d:α}
def AER (d:α) (xs:List α) (i:Int):α:=xs.getD i.toNat d
def DS (enc:α->Value) (d:α) (w:World) (A:Option Addr) (n:Nat) (xs:List α):Prop :=
 xs.length=n/\n<=9223372036854775807/\(0<n-> ∃ad,A=some ad/\ ∀j,j<n->w.cell? (ad.add j)=some (enc (xs.getD j d)))
theorem DS.at_ {w:World} {A:Option Addr} {n:Nat} {xs:List α} (h:DS enc d w A n xs) (i:Int) (h0:0<=i) (h1:i<n) : ∃ad,A=some ad/\w.cell? (ad.add i.toNat)=some (enc (AER d xs i)):=by
 obtain⟨ad,e,hc⟩:=h.2.2 (by omega);exact⟨ad,e,hc _ (by omega)⟩
theorem DS.below {w w1:World} {A:Option Addr} {n:Nat} {xs:List α} (h:DS enc d w A n xs) (hb:Below w.heap.size w w1):DS enc d w1 A n xs :=
 ⟨h.1,h.2.1,λhn=>by
   obtain⟨ad,e,hc⟩:=h.2.2 hn;exact⟨ad,e,λj hj=>Ns hb (hc j hj)⟩⟩
theorem DS.yK {w:World} {A:Option Addr} {n:Nat} {xs:List α} (h:DS enc d w A n xs) (i:Nat) (hi:i<=n):DS enc d w A i (xs.take i):=by
 refine⟨by rw[APx,h.1];omega,by have:=h.2.1;omega,λhp=> ?_⟩;obtain⟨ad,e,hc⟩:=h.2.2 (by omega);refine⟨ad,e,λj hj=> ?_⟩;rw[hc j (by omega)];simp[APt,hj]
end
section
variable {α:Type} {P:Program} {ops:Array Oper} {rest:List Oper} {o:Oper} {a:Act} {Q:Exit->Act->World->Prop}
end
section
variable {P:Program}
end
theorem AG5 {w:World} {base n m c size:Nat} {e:TypeId} {A:Option Addr} {xs:List Value} (h:w.ownsRow base e size (.slice A m c) n xs):m<=c:=by
 rcases h.2 with⟨he,_⟩ | ⟨g,cap,cur,he,_,_,hnc,_⟩
 · injection he with _ h2 h3
   omega
 · injection he with _ h2 h3
   omega
def Ei {α:Type} (R:α->List Value->Prop) (e:TypeId) (size:Nat) (w:World) (base:Nat) (v:Value) (ps:List α):Prop :=
 ∃inner,w.ownsRow base e size v ps.length inner/\Bw R size ps inner
section
variable {α:Type} {R R':α->List Value->Prop} {e:TypeId} {size:Nat} {w w1:World} {base:Nat} {v:Value} {ps:List α}
theorem Ei.HW (h:Ei R e size w base v ps) (hR : ∀p c,R p c->R' p c):Ei R' e size w base v ps:=by
 obtain⟨inner,ho,hr⟩:=h;exact⟨inner,ho,hr.HW hR⟩
theorem Ei.below (h:Ei R e size w base v ps) (hb:Below w.heap.size w w1):Ei R e size w1 base v ps:=by
 obtain⟨inner,ho,hr⟩:=h;exact⟨inner,lO ho hb,hr⟩
theorem Ei.other (h:Ei R e size w base v ps) {row:Option Nat} (hg:w.grownBy w1 row) (hne:v.ownBlock=none\/v.ownBlock≠row):Ei R e size w1 base v ps:=by
 obtain⟨inner,ho,hr⟩:=h;exact⟨inner,AAF ho hg hne,hr⟩
theorem Ei.keep (h:Ei R e size w base v ps) {g:Nat} {t:TypeId} {cells:Array Value} (hb:w.heap[g]? =some (.cells cells t (0,0))) (ht:e≠t) (hk:FH w w1 g none):Ei R e size w1 base v ps:=by
 obtain⟨inner,ho,hr⟩:=h;exact⟨inner,hk.own ho (ASz (AG3 ho hb ht)) (by cases v.ownBlock<;>simp),hr⟩
theorem Ei.lower (h:Ei R e size w base v ps) {base':Nat} (hb:base'<=base):Ei R e size w base' v ps:=by
 obtain⟨inner,ho,hr⟩:=h;exact⟨inner,cC ho hb,hr⟩
theorem Ei.reads (h:Ei R e size w base v ps) : ∃A c,v= .slice A ps.length c/\ps.length<=c/\E7 R size w A ps.length ps:=by
 obtain⟨inner,ho,hr⟩:=h;obtain⟨A,c,rfl,hrow⟩:=gz ho hr rfl;exact⟨A,c,rfl,AG5 ho,hrow⟩
theorem Ei.lit (W:World) (base:Nat) {inner:List Value} (hr:Bw R size ps inner) (hb:base<=W.heap.size) (hm:ps.length<=9223372036854775807) :
 Ei R e size (W.alloc (.cells inner.toArray e)) base (.slice (some ⟨W.heap.size,0,none⟩) ps.length ps.length) ps:=by
 have h:=World.ownsRow_lit (base:=base) (e:=e) (size:=size) W inner.toArray ps.length hb (by simpa[maxLen] using hm) (by simpa using hr.1);exact⟨inner,by simpa using h,hr⟩
end
section
variable {P:Program} {ops:Array Oper} {rest:List Oper} {o:Oper} {a:Act} {Q:Exit->Act->World->Prop} {α:Type} {R:α->List Value->Prop}
theorem Ei.append {w0 W:World} (base:Nat) (hgd:o.guard=none) (s x:Operand) (t e:TypeId) (z:Value) (size bytes:Nat)
 (ho:o.op= .call {callee:= .builtin .append,args:= #[s,x],argTypes:= #[t,t]})
 (ht:P.underlying t=some (.slice e)) (hinfo:(P.info? e).map (λi=>(i.zero,i.size,i.bytes))=some (some z,size,bytes)) (hz:z.cells.size=size) (hs0:0<size) (hb0:0<bytes)
 (v:Value) (ps:List α) (p:α) (cs:List Value) (hs:a.eval s=v) (hx:a.eval x= .slice (some ⟨W.heap.size,0,none⟩) 1 1) (hp:R p cs) (hcs:cs.length=size) (h1 : ∀u∈cs,u.oneCell'=true)
 (HO:Ei R e size W base v ps) (HB:Below base w0 W) (hbase:base<=W.heap.size) (hl:(ps.length+1)*bytes<=140737488355328)
 (h : ∀v1 w1,Ei R e size w1 base v1 (ps++ [p])->Below base w0 w1->W.grownBy w1 v.ownBlock->(v1.ownBlock=v.ownBlock\/ ∃b,v1.ownBlock=some b/\W.heap.size<=b)->wpList P ops Q rest (a.put o.dst v1) w1) :
 wpList P ops Q (o::rest) a (W.alloc (.cells cs.toArray e)):=by
 obtain⟨inner,hown,hr⟩:=HO;refine MB base hgd s x t e z size bytes ho ht hinfo hz hs0 hb0 v ps.length inner cs hs hx hcs h1 hown HB hbase hl ?_;intro v1 w1 ABT gp hg1 AES;exact h v1 w1 ⟨inner++cs,by rw[AP3,ARt];exact ABT,hr.snoc hp hcs⟩ gp hg1 AES
end
section
variable {P:Program} {ops:Array Oper} {o:Oper} {a:Act} {Q:Exit->Act->World->Prop} {K:Act->World->Prop} {α:Type} {R:α->List Value->Prop}
end
theorem E7.ABU {α:Type} {R:α->List Value->Prop} {size:Nat} {w:World} {ad:Addr} {n:Nat} {ps:List α} (h:E7 R size w (some ad) n ps) :
 ∃inner,Bw R size ps inner/\ ∀j u,inner[j]? =some u->w.cell? (ad.add j)=some u:=by
 have key : ∀m,m<=ps.length-> ∃inner,Bw R size (ps.take m) inner/\ ∀j u,inner[j]? =some u->w.cell? (ad.add j)=some u:=by
  intro m;induction m with
  | zero=>exact λ_=>⟨[],Bw.none _ _,λj u hu=>by simp at hu⟩
  | succ m ih =>
    intro hm;obtain⟨inner,hr,hc⟩:=ih (by omega);obtain⟨ad',he,hcell⟩:=h.2.2 (by have:=h.1;omega);injection he with he;subst he;obtain⟨c,hcl,hp,hcc⟩:=hcell m _ (AP4 (show m<ps.length by omega));refine⟨inner++c, ?_,λj u hu=> ?_⟩
    · rw[ARi (show m<ps.length by omega)]
      exact hr.snoc hp hcl
    · have hil:inner.length=m*size:=by rw[hr.1,APx,AQB (by omega)]
      rcases AQS j inner.length with hj | hj
      · rw[AQg hj] at hu
        exact hc j u hu
      · rw[AQq hj] at hu
        have:=hcc (j-inner.length) u hu
        rwa [hil,Nat.add_sub_cancel' (by omega)] at this
 obtain⟨inner,hr,hc⟩:=key ps.length (AP1 _);rw[AQ3] at hr;exact⟨inner,hr,hc⟩
section
variable {α:Type} {P:Program}
theorem DS.len_ {enc:α->Value} {d:α} {w:World} {A:Option Addr} {n:Nat} {xs:List α} (h:DS enc d w A n xs):DS enc d w A xs.length xs:=by rw[h.1];exact h
theorem g6 (enc:α->Value) (d:α) (t e:TypeId) (kl:IntKind) {i:TypeInfo} (ht:P.underlying t=some (.slice e)) (hi:P.info? e=some i) (hsz:i.size=1) (A:Option Addr) (c:Nat) (xs:List α) (j:Int) (h0:0<=j) (hm:j<=xs.length) (hc:xs.length<=c) :
 (∀W:World,(Instr.slice t (.slice A xs.length c) none (some (.int kl j)) none).run P W= .ok (.slice A (xs.take j.toNat).length c) W) /\
   (∀w:World,DS enc d w A xs.length xs->DS enc d w A (xs.take j.toNat).length (xs.take j.toNat))/\(xs.take j.toNat).length<=c:=by
 have hl:(xs.take j.toNat).length=j.toNat:=by rw[APx];omega
 refine⟨λW=> ?_,λw h=>by rw[hl];exact h.yK j.toNat (by omega),by rw[hl];omega⟩;have hel:P.elem t=e:=by simp[Program.elem,ht]
 have hu:P.underlying t=some (.slice (P.elem t)):=by rw[hel];exact ht
 have ha:(A.map λx=>x.add 0)=A:=by cases A<;>simp[Addr.add]
 rw[run_slice_h W t A xs.length c hu kl j h0 (by omega),hel,hl];simp[sizeOf,typeInfo,hi,hsz,sliced,Result.andThen,ha]
end
section
variable {P:Program} {ops:Array Oper} {rest:List Oper} {o:Oper} {a:Act} {Q:Exit->Act->World->Prop}
end
structure Kd (α:Type) where
 sz:Nat
 E:List Nat
 K:World->α->List Value->Prop
 M:World->Nat->(Nat->Prop)->α->List Value->Prop
 EI : ∀ {w x cs},K w x cs->cs.length=sz
 HK : ∀ {w x cs},K w x cs-> ∀u∈cs,u.oneCell'=true
 EJ : ∀ {w w1:World} {x cs},Below w.heap.size w w1->K w x cs->K w1 x cs
 EP : ∀ {w base ok x cs},M w base ok x cs->K w x cs
 Cx : ∀ {w base ok ok' x cs},(∀k,ok k->ok' k)->M w base ok x cs->M w base ok' x cs
 DT : ∀ {w:World} {base ok x cs},M w base ok x cs->M w base (λk=>ok k/\base<=k/\k<w.heap.size/\ ∃q,q∈E/\ ∃cells,w.heap[k]? =some (.cells cells q (0,0))) x cs
 ER : ∀ {w w1:World} {base ok x cs},(∀k,ok k->w1.heap[k]? =w.heap[k]?)->M w base ok x cs->M w1 base ok x cs
 EK : ∀ {w base base' ok x cs},base'<=base->M w base ok x cs->M w base' ok x cs
theorem qL {w w1:World} {base:Nat} {e:TypeId} {size n:Nat} {v:Value} {xs:List Value} (h:w.ownsRow base e size v n xs) (hm : ∀k,v.ownBlock=some k->w1.heap[k]? =w.heap[k]?):w1.ownsRow base e size v n xs:=by
 obtain⟨h1,h2⟩:=h;refine⟨h1, ?_⟩;rcases h2 with h2 | ⟨g,cap,cur,rfl,hg,hh,r⟩
 · exact .inl h2
 · exact .inr ⟨g,cap,cur,rfl,hg,(hm g (by simp[Value.ownBlock])).trans hh,r⟩
theorem AAH {w:World} {base:Nat} {e:TypeId} {size n:Nat} {v:Value} {xs:List Value} (h:w.ownsRow base e size v n xs) (k:Nat) (hk:v.ownBlock=some k) : ∃cells,w.heap[k]? =some (.cells cells e (0,0)):=by
 rcases h.2 with⟨rfl,_⟩ | ⟨g,cap,cur,rfl,hg,hh,r⟩
 · simp[Value.ownBlock] at hk
 · have:g=k:=by simpa[Value.ownBlock] using hk
   subst this;exact⟨cur,hh⟩
namespace Kd
def C {α:Type} (d:Kd α) (w:World) (A:Option Addr) (n:Nat) (xs:List α):Prop:=E7 (d.K w) d.sz w A n xs
def R {α:Type} (d:Kd α) (e:Nat) (w:World) (base:Nat) (ok:Nat->Prop) (v:Value) (xs:List α):Prop :=
 (∀k,v.ownBlock=some k->ok k)/\Ei (d.M w base (λk=>ok k/\some k≠v.ownBlock)) e d.sz w base v xs
section
variable {α:Type} {d:Kd α} {e:Nat} {w w1:World} {base:Nat} {ok ok':Nat->Prop} {v:Value} {xs:List α}
theorem PA {A:Option Addr} {n:Nat} (h:d.C w A n xs) (hb:Below w.heap.size w w1):d.C w1 A n xs:=E7.HW h hb (λ_ _ hp=>d.EJ hb hp)
theorem cD (h:d.R e w base ok v xs) (hok : ∀k,ok k->ok' k):d.R e w base ok' v xs:=⟨λk hk=>hok k (h.1 k hk),h.2.HW (λ_ _ hp=>d.Cx (λk hk=>⟨hok k hk.1,hk.2⟩) hp)⟩
theorem aj (h:d.R e w base ok v xs):d.R e w base (λk=>ok k/\base<=k/\k<w.heap.size/\ ∃q,q∈e::d.E/\ ∃cells,w.heap[k]? =some (.cells cells q (0,0))) v xs:=by
 obtain⟨h0,inner,ho,hr⟩:=h;refine⟨λk hk=> ?_,inner,ho,hr.HW (λ_ _ hp=>d.Cx (λk hk=> ?_) (d.DT hp))⟩
 · obtain⟨cells,hc⟩:=AAH ho k hk
   exact⟨h0 k hk,Vu ho k hk,ABS ho k hk,e,APq,cells,hc⟩
 · obtain⟨⟨h1,h2⟩,h3,h4,q,hq,hc⟩:=hk
   exact⟨⟨h1,h3,h4,q,APp _ hq,hc⟩,h2⟩
theorem u6 (h:d.R e w base ok v xs) (hm : ∀k,ok k->w1.heap[k]? =w.heap[k]?):d.R e w1 base ok v xs:=by
 obtain⟨h0,inner,ho,hr⟩:=h;exact⟨h0,inner,qL ho (λk hk=>hm k (h0 k hk)),hr.HW (λ_ _ hp=>d.ER (λk hk=>hm k hk.1) hp)⟩
theorem aq {base':Nat} (h:d.R e w base ok v xs) (hb:base'<=base):d.R e w base' ok v xs:=by
 obtain⟨h0,inner,ho,hr⟩:=h;exact⟨h0,inner,cC ho hb,hr.HW (λ_ _ hp=>d.EK hb hp)⟩
theorem AG6 (h:d.R e w base ok v xs) (hm : ∀k,ok k->k<w.heap.size->w1.heap[k]? =w.heap[k]?):d.R e w1 base ok v xs :=
 cD (u6 (aj h) (λk hk=>hm k hk.1 hk.2.2.1)) (λ_ hk=>hk.1)
theorem AG7 {x:α} {cs:List Value} (h:d.M w base ok x cs) (hm : ∀k,ok k->k<w.heap.size->w1.heap[k]? =w.heap[k]?):d.M w1 base ok x cs :=
 d.Cx (λ_ hk=>hk.1) (d.ER (λk hk=>hm k hk.1 hk.2.2.1) (d.DT h))
theorem lQ (h:d.R e w base ok v xs) (hb:Below w.heap.size w w1):d.R e w1 base ok v xs:=AG6 h (λk _ hk=>hb.block k hk)
theorem yM {x:α} {cs:List Value} (h:d.M w base ok x cs) (hb:Below w.heap.size w w1):d.M w1 base ok x cs:=AG7 h (λk _ hk=>hb.block k hk)
theorem lS (h:d.R e w base ok v xs) : ∃A c,v= .slice A xs.length c/\xs.length<=c/\d.C w A xs.length xs:=by
 obtain⟨A,c,he,hl,hr⟩:=Ei.reads h.2;exact⟨A,c,he,hl,hr.HW (Below.refl _ _) (λ_ _ hp=>d.EP hp)⟩
theorem AET (h:d.R e w base ok v xs) : ∃A c,v= .slice A xs.length c:=by
 obtain⟨A,c,he,_⟩:=lS h;exact⟨A,c,he⟩
theorem AF6 (h:d.R e w base ok v xs) : ∃inner,w.ownsRow base e d.sz v xs.length inner:=by
 obtain⟨_,inner,ho,_⟩:=h;exact⟨inner,ho⟩
end
def scalar {α:Type} (enc:α->Value) (h1 : ∀x,(enc x).oneCell'=true):Kd α where
 sz:=1
 E:= []
 K:=λ_ x cs=>cs= [enc x]
 M:=λ_ _ _ x cs=>cs= [enc x]
 EI:=λh=>by rw[h];rfl
 HK:=λh u hu=>by
  rw[h] at hu;rw[ARW.1 hu];exact h1 _
 EJ:=λ_ h=>h
 EP:=λh=>h
 Cx:=λ_ h=>h
 DT:=λh=>h
 ER:=λ_ h=>h
 EK:=λ_ h=>h
def int (k:IntKind):Kd Int:=scalar (Value.int k) (λ_=>rfl)
def bool:Kd Bool:=scalar Value.bool (λ_=>rfl)
def string:Kd ByteArray:=scalar Value.string (λ_=>rfl)
def slice {α:Type} (e:Nat) (d:Kd α):Kd (List α) where
 sz:=1
 E:=e::d.E
 K:=λw xs cs=> ∃A c,cs= [.slice A xs.length c]/\xs.length<=c/\d.C w A xs.length xs
 M:=λw base ok xs cs=> ∃v,cs= [v]/\d.R e w base ok v xs
 EI:=by
  rintro w x cs ⟨A,c,rfl,_⟩;rfl
 HK:=by
  rintro w x cs ⟨A,c,rfl,_⟩ u hu;rw[ARW.1 hu];rfl
 EJ:=by
  rintro w w1 x cs hb ⟨A,c,rfl,hl,hr⟩;exact⟨A,c,rfl,hl,PA hr hb⟩
 EP:=by
  rintro w base ok x cs ⟨v,rfl,h⟩;obtain⟨A,c,rfl,hl,hr⟩:=lS h;exact⟨A,c,rfl,hl,hr⟩
 Cx:=by
  rintro w base ok ok' x cs hok ⟨v,rfl,h⟩;exact⟨v,rfl,cD h hok⟩
 DT:=by
  rintro w base ok x cs ⟨v,rfl,h⟩;exact⟨v,rfl,aj h⟩
 ER:=by
  rintro w w1 base ok x cs hm ⟨v,rfl,h⟩;exact⟨v,rfl,u6 h hm⟩
 EK:=by
  rintro w base base' ok x cs hb ⟨v,rfl,h⟩;exact⟨v,rfl,aq h hb⟩
def pair {α β:Type} (a:Kd α) (b:Kd β):Kd (α × β) where
 sz:=a.sz+b.sz
 E:=a.E++b.E
 K:=λw x cs=> ∃c0 c1,cs=c0++c1/\a.K w x.1 c0/\b.K w x.2 c1
 M:=λw base ok x cs=> ∃c0 c1,cs=c0++c1/\a.M w base ok x.1 c0/\b.M w base ok x.2 c1
 EI:=by
  rintro w x cs ⟨c0,c1,rfl,h0,h1⟩;rw[AP3,a.EI h0,b.EI h1]
 HK:=by
  rintro w x cs ⟨c0,c1,rfl,h0,h1⟩ u hu;rcases AQM.1 hu with hu | hu
  · exact a.HK h0 u hu
  · exact b.HK h1 u hu
 EJ:=by
  rintro w w1 x cs hb ⟨c0,c1,rfl,h0,h1⟩;exact⟨c0,c1,rfl,a.EJ hb h0,b.EJ hb h1⟩
 EP:=by
  rintro w base ok x cs ⟨c0,c1,rfl,h0,h1⟩;exact⟨c0,c1,rfl,a.EP h0,b.EP h1⟩
 Cx:=by
  rintro w base ok ok' x cs hok ⟨c0,c1,rfl,h0,h1⟩;exact⟨c0,c1,rfl,a.Cx hok h0,b.Cx hok h1⟩
 DT:=by
  rintro w base ok x cs ⟨c0,c1,rfl,h0,h1⟩;refine⟨c0,c1,rfl,a.Cx ?_ (a.DT h0),b.Cx ?_ (b.DT h1)⟩
  · rintro k ⟨h2,h3,h4,q,hq,hc⟩
    exact⟨h2,h3,h4,q,APy _ hq,hc⟩
  · rintro k ⟨h2,h3,h4,q,hq,hc⟩
    exact⟨h2,h3,h4,q,APu _ hq,hc⟩
 ER:=by
  rintro w w1 base ok x cs hm ⟨c0,c1,rfl,h0,h1⟩;exact⟨c0,c1,rfl,a.ER hm h0,b.ER hm h1⟩
 EK:=by
  rintro w base base' ok x cs hb ⟨c0,c1,rfl,h0,h1⟩;exact⟨c0,c1,rfl,a.EK hb h0,b.EK hb h1⟩
def bot {α:Type} (sz:Nat) (E:List Nat):Kd α where
 sz:=sz
 E:=E
 K:=λ_ _ _=>False
 M:=λ_ _ _ _ _=>False
 EI:=λh=>h.elim
 HK:=λh=>h.elim
 EJ:=λ_ h=>h
 EP:=λh=>h
 Cx:=λ_ h=>h
 DT:=λh=>h
 ER:=λ_ h=>h
 EK:=λ_ h=>h
def upto {α:Type} (F:Kd α->Kd α) (sz:Nat) (E:List Nat):Nat->Kd α
 | 0=>bot sz E
 | n+1=>F (upto F sz E n)
theorem u9 {α:Type} {d:Kd α} {e base:Nat} {ok U3:Nat->Prop} {W w1:World} {v v1:Value} {xs:List α} {p:α} {inner cs:List Value} (h0 : ∀k,v.ownBlock=some k->ok k) (hr:Bw (d.M W base (λk=>ok k/\some k≠v.ownBlock)) d.sz xs inner) (hp:d.M W base U3 p cs) (lT : ∀k,U3 k->ok k/\some k≠v.ownBlock) (MC : ∀k,W.heap.size<=k->ok k)
 (hown:w1.ownsRow base e d.sz v1 (xs.length+1) (inner++cs)) (hg:W.grownBy w1 v.ownBlock) (Nt:v1.ownBlock=v.ownBlock\/ ∃b,v1.ownBlock=some b/\W.heap.size<=b):d.R e w1 base ok v1 (xs++ [p]):=by
 have hne : ∀k,some k≠v.ownBlock->k<W.heap.size->some k≠v1.ownBlock:=by
  intro k hk hlt;rcases Nt with Nt | ⟨b,hb,hle⟩
  · rw[Nt];exact hk
  · rw[hb]
    intro he;injection he with he;omega
 have step : ∀ {q:α} {c:List Value} {o:Nat->Prop},d.M W base o q c->(∀k,o k->ok k/\some k≠v.ownBlock)->d.M w1 base (λk=>ok k/\some k≠v1.ownBlock) q c:=by
  intro q c o hq ho;have h1:=d.ER (w1:=w1) (λk hk=>hg.block k hk.2.2.1 (ho k hk.1).2) (d.DT hq);exact d.Cx (λk hk=>⟨(ho k hk.1).1,hne k (ho k hk.1).2 hk.2.2.1⟩) h1
 refine⟨λk hk=> ?_,inner++cs,by rw[AP3,ARt];exact hown, ?_⟩
 · rcases Nt with Nt | ⟨b,hb,hle⟩
   · exact h0 k (Nt▸hk)
   · rw[hb] at hk
     injection hk with hk;exact MC k (by omega)
 · exact(hr.HW (λ_ _ hq=>step hq (λ_ hk=>hk))).snoc (step hp lT) (d.EI (d.EP hp))
section
variable {P:Program} {ops:Array Oper} {rest:List Oper} {o:Oper} {a:Act} {Q:Exit->Act->World->Prop} {α:Type}
theorem qM (d:Kd α) {w0 W:World} (base:Nat) (hgd:o.guard=none) (s x:Operand) (t e:TypeId) (z:Value) (bytes:Nat)
 (ho:o.op= .call {callee:= .builtin .append,args:= #[s,x],argTypes:= #[t,t]})
 (ht:P.underlying t=some (.slice e)) (hinfo:(P.info? e).map (λi=>(i.zero,i.size,i.bytes))=some (some z,d.sz,bytes)) (hz:z.cells.size=d.sz) (hs0:0<d.sz) (hb0:0<bytes)
 (v:Value) (xs:List α) (p:α) (cs:List Value) (ok U3:Nat->Prop) (hs:a.eval s=v) (hx:a.eval x= .slice (some ⟨W.heap.size,0,none⟩) 1 1) (hp:d.M W base U3 p cs) (lT : ∀k,U3 k->ok k/\some k≠v.ownBlock) (MC : ∀k,W.heap.size<=k->ok k)
 (HO:d.R e W base ok v xs) (HB:Below base w0 W) (hbase:base<=W.heap.size) (hl:(xs.length+1)*bytes<=140737488355328)
 (h : ∀v1 w1,d.R e w1 base ok v1 (xs++ [p])->Below base w0 w1->W.grownBy w1 v.ownBlock->(v1.ownBlock=v.ownBlock\/ ∃b,v1.ownBlock=some b/\W.heap.size<=b)->wpList P ops Q rest (a.put o.dst v1) w1) :
 wpList P ops Q (o::rest) a (W.alloc (.cells cs.toArray e)):=by
 obtain⟨h0,inner,hown,hr⟩:=HO;refine MB base hgd s x t e z d.sz bytes ho ht hinfo hz hs0 hb0 v xs.length inner cs hs hx (d.EI (d.EP hp)) (d.HK (d.EP hp)) hown HB hbase hl ?_;intro v1 w1 ABT gp hg1 AES;exact h v1 w1 (u9 h0 hr hp lT MC ABT hg1 AES) gp hg1 AES
end
section
variable {P:Program} {ops:Array Oper} {o:Oper} {a:Act} {Q:Exit->Act->World->Prop} {Kc:Act->World->Prop} {α:Type}
end
theorem vC {α:Type} {enc:α->Value} {d:α} {h1 : ∀x,(enc x).oneCell'=true} {w:World} {A:Option Addr} {n:Nat} {xs:List α} (h:DS enc d w A n xs):(scalar enc h1).C w A n xs:=by
 refine⟨h.1,h.2.1,λhn=> ?_⟩;obtain⟨ad,e,hc⟩:=h.2.2 hn;refine⟨ad,e,λj p hj=>⟨[enc p],rfl,rfl,λi u hu=> ?_⟩⟩;obtain⟨hl,hp⟩:=APw.1 hj;have h2:=hc j (by have:=h.1;omega);rw[APt,hj] at h2;cases i with
 | zero =>
   have:enc p=u:=(by simpa using hu);subst this;simpa[scalar] using h2
 | succ i=>simp at hu
theorem cE {α:Type} {enc:α->Value} {d:α} {h1 : ∀x,(enc x).oneCell'=true} {w:World} {A:Option Addr} {n:Nat} {xs:List α} (h:(scalar enc h1).C w A n xs):DS enc d w A n xs:=by
 refine⟨h.1,h.2.1,λhn=> ?_⟩;obtain⟨ad,e,hc⟩:=h.2.2 hn;refine⟨ad,e,λj hj=> ?_⟩;have hl:j<xs.length:=by have:=h.1;omega
 obtain⟨c,_,hK,hcell⟩:=hc j _ (AP4 hl);have hK':c= [enc xs[j]]:=hK;subst hK';have:=hcell 0 _ rfl;simpa[scalar,APt,AP4 hl] using this
end Kd
namespace Kd
section
variable {α:Type} {F:Kd α->Kd α} {sz:Nat} {E:List Nat} {hs : ∀n,(upto F sz E n).sz=sz} {hE : ∀n q,q∈(upto F sz E n).E->q∈E}
end
end Kd
namespace Kd
end Kd
namespace Kd
section
variable {α β:Type} {d:Kd α} {d':Kd β} {e e':Nat} {w w1 W:World} {base b b':Nat} {ok ok' okv oku:Nat->Prop} {v u:Value} {xs:List α} {ys:List β}
theorem KZ (h:d.R e w base ok v xs) (o:Obj):d.R e (w.alloc o) base ok v xs:=lQ h (BK (Below.refl _ _) o)
theorem Nu (h:d.R e w base ok v xs):d.R e w.drew base ok v xs:=lQ h (bu (Below.refl _ _))
theorem Ka (h:d.R e w base ok v xs) (m:Nat):d.R e (w.drewN m) base ok v xs:=lQ h (At (Below.refl _ _) m)
theorem Vv {A:Option Addr} {n:Nat} (h:d.C w A n xs) (o:Obj):d.C (w.alloc o) A n xs:=PA h (BK (Below.refl _ _) o)
theorem cF {A:Option Addr} {n:Nat} (h:d.C w A n xs):d.C w.drew A n xs:=PA h (bu (Below.refl _ _))
theorem Vx {A:Option Addr} {n:Nat} (h:d.C w A n xs) (m:Nat):d.C (w.drewN m) A n xs:=PA h (At (Below.refl _ _) m)
theorem qN {A:Option Addr} {n c:Nat} (h:d.R e w base ok (.slice A n c) xs):n=xs.length/\n<=c/\d.C w A xs.length xs:=by
 obtain⟨A',c',he,hl,hr⟩:=lS h;injection he with h1 h2 h3;subst h1;exact⟨h2,by omega,hr⟩
theorem ALn (h:d.R e w base ok v xs) : ∀k,v.ownBlock=some k->k<w.heap.size:=by
 obtain⟨inner,ho⟩:=AF6 h;exact ABS ho
theorem AG8 (h:d.R e w base ok v xs) : ∀k,v.ownBlock=some k->base<=k:=by
 obtain⟨inner,ho⟩:=AF6 h;exact Vu ho
end
section
variable {w W:World} {A:Option Addr} {n:Nat}
theorem vE {k:IntKind} {xs:List Int} (h:(Kd.int k).C w A n xs) (i:Int) (h0:0<=i) (h1:i<n) : ∃ad,A=some ad/\w.cell? (ad.add i.toNat)=some (.int k (rd xs i)) :=
 DS.at_ (cE (enc:=Value.int k) (d:=(0:Int)) (h1:=λ_=>rfl) h) i h0 h1
variable {α:Type} {enc:α->Value} {h1 : ∀x,(enc x).oneCell'=true} {e base g cap:Nat} {ok:Nat->Prop} {xs:List α}
end
section
variable {P:Program} {ops:Array Oper} {rest:List Oper} {o:Oper} {a:Act} {Q:Exit->Act->World->Prop}
theorem jP {W w1:World} {v:Value} (hgd:o.guard=none) (hrun:(execOp a.eval o).run P W= .ok (.value v) w1) (h:wpList P ops Q rest (a.put o.dst v) w1):wpList P ops Q (o::rest) a W:=by
 refine wpList_plain hgd λK hK=> ?_
 unfold Oper.wp;rw[hrun];exact hK _ _ h
variable {α:Type}
theorem AIo (d:Kd α) {w0 W:World} (base e:Nat) (hgd:o.guard=none) {N:Tmp} (_hd:o.dst=some N) {xs:List α} {inner:List Value} {ok U3:Nat->Prop}
 (hrun:(execOp a.eval o).run P W= .ok (.value (.slice (some ⟨W.heap.size,0,none⟩) xs.length xs.length)) (W.alloc (.cells inner.toArray e)))
 (vF:Bw (d.M W base U3) d.sz xs inner) (hok : ∀k,U3 k->ok k) (MC:ok W.heap.size) (HB:Below base w0 W) (hbase:base<=W.heap.size) (hm:xs.length<=9223372036854775807)
 (h : ∀v1 w1,d.R e w1 base ok v1 xs->Below base w0 w1->W.grownBy w1 none->(∃b,v1.ownBlock=some b/\W.heap.size<=b)->wpList P ops Q rest (a.put o.dst v1) w1):wpList P ops Q (o::rest) a W:=by
 refine jP hgd hrun (h _ _ ⟨λk hk=> ?_,inner, ?_, ?_⟩ (HB.alloc hbase _) (World.grownBy_alloc W _ none) ⟨W.heap.size,by simp[Value.ownBlock],AP1 _⟩)
 · have:W.heap.size=k:=by simpa[Value.ownBlock] using hk
   subst this;exact MC
 · have h2:=World.ownsRow_lit (base:=base) (e:=e) (size:=d.sz) W inner.toArray xs.length hbase (by simpa[maxLen] using hm) (by simpa using vF.1)
   simpa using h2
 · refine vF.HW (λp c hp=>d.Cx (λk hk=>⟨hok k hk.1,λhe=> ?_⟩) (yM (d.DT hp) (BK (Below.refl _ _) _)))
   have h3:k=W.heap.size:=(by simpa[Value.ownBlock] using he);have:=hk.2.2.1;omega
theorem jQ {α:Type} {R:α->List Value->Prop} {z:Value} {size:Nat} {z0:α} (hz:z.cells.size=size) (hs:0<size) (h0:R z0 z.cells.toList) (m:Nat):Bw R size (List.replicate m z0) (madeCells z.cells (m*size)).toList:=by
 refine⟨by simp[size_madeCells],λj p hj=> ?_⟩;obtain⟨hjl,hp⟩:=APw.1 hj;have hjm:j<m:=by simpa using hjl
 have CH:z0=p:=by simpa using hp
 subst CH;have hle:j*size+size<=m*size:=by rw[<-AQh];exact AP8 _ hjm
 have:((madeCells z.cells (m*size)).toList.drop (j*size)).take size=z.cells.toList:=by
  apply List.ext_getElem
  · simp[size_madeCells,hz]
    omega
  · intro i h1 h2
    have hi:i<size:=(by rw[ASj,hz] at h2;exact h2);have hmod:(j*size+i)%size=i:=by
     rw[ARm,Nat.mul_add_mod];exact ASa hi
    simp[madeCells,hz,hmod];rw[getElem!_pos z.cells i (by omega)]
 rw[this];exact h0
end
end Kd
theorem ABV {w:World} {base n m c size:Nat} {e:TypeId} {A:Option Addr} {xs:List Value} (h:w.ownsRow base e size (.slice A n c) n xs) (hm:m<=n):w.ownsRow base e size (.slice A m c) m (xs.take (m*size)):=by
 obtain⟨h1,h2⟩:=h;refine⟨by rw[APx,h1];exact AQB (AP8 _ hm), ?_⟩;rcases h2 with⟨he,h0⟩ | ⟨g,cap,cur,he,hb,hh,hnc,hcm,hcs,ht⟩
 · injection he with ha _ hc
   subst ha;subst hc;exact .inl ⟨by rw[show m=0 by omega],by omega⟩
 · injection he with ha _ hc
   subst ha;subst hc;refine .inr ⟨g,c,cur,rfl,hb,hh,by omega,hcm,hcs, ?_⟩;rw[<-ht,AR5,AQB (AP8 _ hm)]
section
variable {P:Program}
end
def ABW (w:World) (base:Nat) (e:TypeId) (size:Nat) (v:Value) (n:Nat) (xs:List Value):Prop :=
 xs.length=n*size /\
 ((n=0/\ ∃A,v= .slice A 0 0/\ ∀a,A=some a->base<=a.block/\ ∃cur,w.heap[a.block]? =some (.cells cur e (0,0))) \/
  ∃g off cap cur,v= .slice (some ⟨g,off*size,none⟩) n cap/\base<=g/\w.heap[g]? =some (.cells cur e (0,0))/\n<=cap/\off+cap<=maxLen/\cur.size=(off+cap)*size/\(cur.toList.drop (off*size)).take (n*size)=xs)
section
variable {w w1:World} {base n size:Nat} {e:TypeId} {v:Value} {xs:List Value}
theorem AEU (h:ABW w base e size v n xs) (k:Nat) (hk:v.ownBlock=some k):base<=k/\ ∃cells,w.heap[k]? =some (.cells cells e (0,0)):=by
 rcases h.2 with⟨_,A,rfl,hA⟩ | ⟨g,off,cap,cur,rfl,hg,hh,r⟩
 · cases A with
   | none=>simp[Value.ownBlock] at hk
   | some a =>
     have:a.block=k:=(by simpa[Value.ownBlock] using hk);subst this;exact hA a rfl
 · have:g=k:=by simpa[Value.ownBlock] using hk
   subst this;exact⟨hg,cur,hh⟩
theorem AEV (h:ABW w base e size v n xs) : ∃A c,v= .slice A n c/\n<=c:=by
 rcases h.2 with⟨h0,A,rfl,_⟩ | ⟨g,off,cap,cur,rfl,hg,hh,hnc,r⟩
 · exact⟨A,0,by rw[h0],by omega⟩
 · exact⟨_,cap,rfl,hnc⟩
theorem AIp (h:ABW w base e size v n xs):n<=9223372036854775807:=by
 rcases h.2 with⟨h0,_⟩ | ⟨g,off,cap,cur,rfl,hg,hh,hnc,hm,r⟩
 · omega
 · simp only[maxLen] at hm
   omega
theorem JA (g o j:Nat):(⟨g,o,none⟩:Addr).add j=⟨g,o+j,none⟩:=by unfold Addr.add;split<;>simp_all
theorem yN {A:Option Addr} {c:Nat} (h:ABW w base e size (.slice A n c) n xs) (hn:0<n) : ∃ad,A=some ad/\ ∀j u,xs[j]? =some u->w.cell? (ad.add j)=some u:=by
 rcases h.2 with⟨h0,_⟩ | ⟨g,off,cap,cur,he,hg,hh,hnc,hm,hcs,ht⟩
 · omega
 · injection he with ha _ hc
   subst ha;refine⟨_,rfl,λj u hu=> ?_⟩;rw[JA,cell_of_row w g _ cur e (0,0) hh];rw[<-ht,AQF] at hu;split at hu
   · rw[AQI] at hu
     rw[<-ATE];exact hu
   · cases hu
theorem Vy {g:Nat} : ∀(vs:List Value) (o:Nat) {w:World} (k:Nat),k≠g->(w.setCells g o vs).heap[k]? =w.heap[k]?
 | [],_,_,_,_=>rfl
 | v::r,o,w,k,hk=>by
   rw[World.setCells,Vy r (o+1) k hk];exact Below.heap_setCell w ⟨g,o,none⟩ v k hk
theorem UA (g:Nat) : ∀(vs:List Value) (o:Nat) (w:World),(w.setCells g o vs).os=w.os/\(w.setCells g o vs).tape=w.tape/\(w.setCells g o vs).output=w.output/\(w.setCells g o vs).heap.size=w.heap.size
 | [],_,_=>⟨rfl,rfl,rfl,rfl⟩
 | v::r,o,w=>by
   obtain⟨h1,h2,h3,h4⟩:=UA g r (o+1) (w.setCell ⟨g,o,none⟩ v);rw[World.setCells];exact⟨h1,h2,h3,by rw[h4];simp[World.setCell]⟩
theorem Vz {g:Nat} {e:TypeId} : ∀(vs:List Value) (o:Nat) (w:World) (cur:Array Value),w.heap[g]? =some (.cells cur e (0,0))->o+vs.length<=cur.size ->
 ∃cur',(w.setCells g o vs).heap[g]? =some (.cells cur' e (0,0))/\cur'.size=cur.size/\cur'.toList=cur.toList.take o++vs++cur.toList.drop (o+vs.length)
 | [],o,w,cur,h,_=>⟨cur,h,rfl,by simp⟩
 | v::r,o,w,cur,h,hl=>by
   have h2:=yL h o v;simp only[AQW] at hl;obtain⟨cur',h3,h4,h5⟩:=Vz r (o+1) (w.setCell ⟨g,o,none⟩ v) _ h2 (by simp;omega);refine⟨cur',h3,by rw[h4];simp, ?_⟩;rw[h5,ASr];have ho:o<cur.toList.length:=(by rw[ASj];omega);rw[List.take_set,List.drop_set_of_lt (by omega)];simp only[AQW];rw[show o+1+r.length=o+(r.length+1) by omega]
   congr 1
   rw[ARi ho,ATF _ _ (by rw[APx];omega)];have ho':o<cur.size:=(by omega);simp[AQB (Nat.le_of_lt ho')]
end
section
variable {P:Program}
end
namespace Kd
theorem X4 {α:Type} {R:α->List Value->Prop} {size m:Nat} {ps:List α} {cs:List Value} (h:Bw R size ps cs) (hm:m<=ps.length):Bw R size (ps.take m) (cs.take (m*size)):=by
 refine⟨by rw[APx,APx,h.1,AQB hm,AQB (AP8 _ hm)],λj p hj=> ?_⟩;rw[AQF] at hj;split at hj
 · rename_i hjm
   have:=h.2 j p hj;have hle:j*size+size<=m*size:=(by rw[<-AQh];exact AP8 _ hjm);rw[ASQ,AR5,AQB (by omega)];exact this
 · cases hj
theorem AG9 {α:Type} {d:Kd α} {e m n c:Nat} {w:World} {base:Nat} {ok:Nat->Prop} {A:Option Addr} {xs:List α} (h:d.R e w base ok (.slice A n c) xs) (hm:m<=xs.length):d.R e w base ok (.slice A m c) (xs.take m):=by
 obtain⟨h0,inner,ho,hr⟩:=h;have hn:n=xs.length:=by
  obtain⟨A',c',he⟩:=AAG ho;injection he
 subst hn;have hb : ∀x y:Nat,(Value.slice A x c).ownBlock=(Value.slice A y c).ownBlock:=by
  intro x y;cases A<;>rfl
 refine⟨λk hk=>h0 k (by rw[hb _ m];exact hk),inner.take (m*d.sz), ?_, ?_⟩
 · rw[APx,AQB hm]
   exact ABV ho hm
 · rw[hb m xs.length]
   exact X4 hr hm
def Q {α:Type} (d:Kd α) (e:Nat) (w:World) (base:Nat) (ok:Nat->Prop) (v:Value) (xs:List α):Prop :=
 (∀k,v.ownBlock=some k->ok k)/\ ∃inner,ABW w base e d.sz v xs.length inner/\Bw (d.M w base (λk=>ok k/\some k≠v.ownBlock)) d.sz xs inner
section
variable {α:Type} {d:Kd α} {e:Nat} {w w1 W:World} {base:Nat} {ok ok':Nat->Prop} {v:Value} {xs:List α}
theorem cG {A:Option Addr} {n c:Nat} (h:d.Q e w base ok (.slice A n c) xs):n=xs.length/\n<=c/\d.C w A xs.length xs:=by
 obtain⟨_,inner,ho,hr⟩:=h;obtain⟨A',c',he,hl⟩:=AEV ho;injection he with h1 h2 h3;subst h1;subst h2;subst h3;refine⟨rfl,hl,rfl,AIp ho,λhp=> ?_⟩;obtain⟨ad,ha,hc⟩:=yN ho hp;refine⟨ad,ha,λj p hj=>⟨(inner.drop (j*d.sz)).take d.sz, ?_,d.EP (hr.2 j p hj),λi u hu=> ?_⟩⟩
 · have hjl:=(APw.1 hj).1
   have h1:j*d.sz+d.sz<=inner.length:=(by rw[hr.1,<-AQh];exact AP8 _ hjl);rw[APx,AQR];omega
 · refine hc _ u ?_
   rw[AQF] at hu;split at hu
   · rw[AQI] at hu
     exact hu
   · cases hu
end
section
variable {P:Program} {ops:Array Oper} {rest:List Oper} {o:Oper} {a:Act} {Q':Exit->Act->World->Prop} {Kc:Act->World->Prop} {α:Type}
end
end Kd
namespace Kd
section
variable {α:Type} {d:Kd α} {e e':Nat} {w w1 W:World} {base:Nat} {ok:Nat->Prop} {u v:Value} {xs:List α}
theorem ABX (hu:d.R e W base ok u xs) (hbase : ∀k,v.ownBlock=some k->W.heap.size<=k) (hb:Below W.heap.size W w1):d.R e w1 base (λk=>ok k/\some k≠v.ownBlock) u xs :=
 cD (u6 (aj hu) (λk hk=>hb.block k hk.2.2.1)) (λk hk=>⟨hk.1,λhe=>by have:=hbase k he.symm;have:=hk.2.2.1;omega⟩)
theorem AHA (h:d.R e w1 W.heap.size ok v xs) (hlt : ∀k,u.ownBlock=some k->k<W.heap.size):d.R e w1 W.heap.size (λk=>ok k/\some k≠u.ownBlock) v xs :=
 cD (aj h) (λk hk=>⟨hk.1,λhe=>by have:=hlt k he.symm;have:=hk.2.1;omega⟩)
end
end Kd
theorem S7 {α:Type} (a seg:List α) (o:Nat) (h:o+seg.length<=a.length) (q:Nat) :
 (a.take o++seg++a.drop (o+seg.length))[q]? =if q<o then a[q]? else if q<o+seg.length then seg[q-o]? else a[q]? :=by
 have hl:(a.take o).length=o:=by rw[APx];omega
 rw[AQ6];by_cases h1:q<o
 · rw[if_pos h1,AQg (by omega),AQF,if_pos h1]
 · rw[if_neg h1,AQq (by omega),hl]
   by_cases h2:q<o+seg.length
   · rw[if_pos h2,AQg (by omega)]
   · rw[if_neg h2,AQq (by omega),AQI]
     congr 1
     omega
namespace Kd
section
variable {α:Type} {d:Kd α} {e base g n cap:Nat} {ok U3:Nat->Prop} {W:World} {xs:List α}
end
end Kd
namespace Kd
def fixed {α:Type} (d:Kd α) (w0:World):Kd α where
 sz:=d.sz
 E:= []
 K:=λ_ x cs=>d.K w0 x cs
 M:=λ_ _ _ x cs=>d.K w0 x cs
 EI:=d.EI
 HK:=d.HK
 EJ:=λ_ h=>h
 EP:=λh=>h
 Cx:=λ_ h=>h
 DT:=λh=>h
 ER:=λ_ h=>h
 EK:=λ_ h=>h
def or_ {α:Type} (a b:Kd α) (h:b.sz=a.sz):Kd α where
 sz:=a.sz
 E:=a.E++b.E
 K:=λw x cs=>a.K w x cs\/b.K w x cs
 M:=λw base ok x cs=>a.M w base ok x cs\/b.M w base ok x cs
 EI:=λhk=>hk.elim a.EI (λhk=>(b.EI hk).trans h)
 HK:=λhk=>hk.elim a.HK b.HK
 EJ:=λhb hk=>hk.imp (a.EJ hb) (b.EJ hb)
 EP:=λhk=>hk.imp a.EP b.EP
 Cx:=λhok hk=>hk.imp (a.Cx hok) (b.Cx hok)
 DT:=λhk=>hk.imp
  (λhk=>a.Cx (λ_ ⟨h1,h2,h3,q,hq,hc⟩=>⟨h1,h2,h3,q,APy _ hq,hc⟩) (a.DT hk))
  (λhk=>b.Cx (λ_ ⟨h1,h2,h3,q,hq,hc⟩=>⟨h1,h2,h3,q,APu _ hq,hc⟩) (b.DT hk))
 ER:=λhm hk=>hk.imp (a.ER hm) (b.ER hm)
 EK:=λhb hk=>hk.imp (a.EK hb) (b.EK hb)
section
variable {α:Type} {F:Kd α->Kd α} {sz:Nat} {E:List Nat} {hs : ∀n,(upto F sz E n).sz=sz} {hE : ∀n q,q∈(upto F sz E n).E->q∈E}
end
end Kd
namespace Kd
theorem qO {α:Type} {R:α->List Value->Prop} {size:Nat} {ps qs:List α} {cs ds:List Value} (h:Bw R size ps cs) (h':Bw R size qs ds):Bw R size (ps++qs) (cs++ds):=by
 refine⟨by rw[AP3,AP3,h.1,h'.1,ASC],λj p hj=> ?_⟩;rcases AQS j ps.length with hlt | hge
 · rw[AQg hlt] at hj
   have hle:j*size+size<=cs.length:=(by rw[h.1,<-AQh];exact AP8 _ hlt);rw[ARK (by omega),ARB (by rw[AQR];omega)];exact h.2 j p hj
 · rw[AQq hge] at hj
   have h2:=h'.2 (j-ps.length) p hj;have hle:ps.length*size<=j*size:=AP8 _ hge;rw[ARp,AQN (by rw[h.1];exact hle),ARk,h.1,<-Nat.sub_mul];exact h2
section
variable {P:Program} {ops:Array Oper} {rest:List Oper} {o:Oper} {a:Act} {Q:Exit->Act->World->Prop} {α:Type}
theorem g8 (d:Kd α) {Rr:α->List Value->Prop} {w0 W:World} (base:Nat) (hgd:o.guard=none) (s x:Operand) (t e:TypeId) (z:Value) (bytes:Nat)
 (ho:o.op= .call {callee:= .builtin .append,args:= #[s,x],argTypes:= #[t,t]})
 (ht:P.underlying t=some (.slice e)) (hinfo:(P.info? e).map (λi=>(i.zero,i.size,i.bytes))=some (some z,d.sz,bytes)) (hz:z.cells.size=d.sz) (hs0:0<d.sz) (hb0:0<bytes)
 (v:Value) (xs ys:List α) (A:Option Addr) (m c:Nat) (ok U3:Nat->Prop) (hs:a.eval s=v) (hx:a.eval x= .slice A m c)
 (HO:d.R e W base ok v xs) (HR:E7 Rr d.sz W A m ys) (hKM : ∀x cs,Rr x cs->d.M W base U3 x cs) (lT : ∀k,U3 k->ok k/\some k≠v.ownBlock) (MC : ∀k,W.heap.size<=k->ok k)
 (HB:Below base w0 W) (hbase:base<=W.heap.size) (hl:(xs.length+m)*bytes<=140737488355328)
 (h : ∀v1 w1,d.R e w1 base ok v1 (xs++ys)->Below base w0 w1->W.grownBy w1 v.ownBlock->(v1.ownBlock=v.ownBlock\/ ∃b,v1.ownBlock=some b/\W.heap.size<=b)->wpList P ops Q rest (a.put o.dst v1) w1) :
 wpList P ops Q (o::rest) a W:=by
 obtain⟨i0,hi,hzz⟩:=AQl.1 hinfo;simp only[ARo] at hzz;obtain⟨uk,hz1,hz2⟩:=hzz;have hm:ys.length=m:=HR.1;have hlen:xs.length+m<=140737488355328:=AQp (ARO _ hb0) hl;obtain⟨hok,inner,hown,hr⟩:=HO;have hrun : ∃v1 w1,(Builtin.append_ #[t,t] o.type #[v, .slice A m c]).run P W= .ok v1 w1/\d.R e w1 base ok v1 (xs++ys)/\W.grownBy w1 v.ownBlock/\(v1.ownBlock=v.ownBlock\/ ∃b,v1.ownBlock=some b/\W.heap.size<=b):=by
  rcases A with _ | ad
  · have h0:m=0:=by
     rcases ARr m with h0 | h0
     · exact h0
     · obtain⟨ad,h,_⟩:=HR.2.2 h0
       cases h
    subst h0;obtain rfl:ys= []:=AQc hm;refine⟨v,W, ?_,by rw[ARC];exact⟨hok,inner,hown,hr⟩,World.grownBy.refl W _, .inl rfl⟩;rcases hown.2 with⟨rfl,hn⟩ | ⟨g,cap,cur,rfl,_,_,hnc,_⟩
    · simp[Builtin.append_,run_underlying ht,sizeOf,typeInfo,hi,Builtin.lenOf,Builtin.firstCells]
    · simp[Builtin.append_,run_underlying ht,sizeOf,typeInfo,hi,Builtin.lenOf,Builtin.firstCells,hnc,storeCells]
  · obtain⟨news,hnr,hnc⟩:=E7.ABU HR
    have hnM:Bw (d.M W base U3) d.sz ys news:=hnr.HW (λp c hp=>hKM p c hp);have hone : ∀u∈news,u.oneCell'=true:=by
     intro u hu;obtain⟨q,hq,rfl⟩:=ASd.1 hu;have hql:q/d.sz<ys.length:=by
      rw[ASU hs0];rw[<-hnM.1];exact hq
     have hc:=hnM.2 (q/d.sz) _ (AP4 hql);refine d.HK (d.EP hc) _ ?_;rw[ASV];refine⟨q%d.sz, ?_⟩;rw[AQF,if_pos (Nat.mod_lt _ hs0),AQI,ARm,ATG,AP4 hq]
    obtain⟨v1,w1,hrun,h2,hg,_,Nt⟩:=run_append_own_at (P:=P) W base t o.type e i0 z d.sz bytes ht hi uk hz1 hz2 hz hs0 v xs.length inner hown ad m c news (by rw[hnM.1,hm]) hnc hone (by simp only[maxLen];omega) hl hbase;have AHB:v1.ownBlock=v.ownBlock\/ ∃b,v1.ownBlock=some b/\W.heap.size<=b:=by
     rcases Nt with Nt | Nt
     · exact .inl Nt
     · exact .inr ⟨_,Nt,AP1 _⟩
    have hne : ∀k,some k≠v.ownBlock->k<W.heap.size->some k≠v1.ownBlock:=by
     intro k hk hlt;rcases AHB with Nt | ⟨b,hb,hle⟩
     · rw[Nt];exact hk
     · rw[hb]
       intro he;injection he with he;omega
    have step : ∀ {q:α} {c:List Value} {o:Nat->Prop},d.M W base o q c->(∀k,o k->ok k/\some k≠v.ownBlock)->d.M w1 base (λk=>ok k/\some k≠v1.ownBlock) q c:=by
     intro q c o hq ho;have h1:=d.ER (w1:=w1) (λk hk=>hg.block k hk.2.2.1 (ho k hk.1).2) (d.DT hq);exact d.Cx (λk hk=>⟨(ho k hk.1).1,hne k (ho k hk.1).2 hk.2.2.1⟩) h1
    refine⟨v1,w1,hrun,⟨λk hk=> ?_,inner++news,by rw[AP3,hm];exact h2,qO (hr.HW (λ_ _ hq=>step hq (λ_ hk=>hk))) (hnM.HW (λ_ _ hq=>step hq lT))⟩,hg,AHB⟩;rcases AHB with Nt | ⟨b,hb,hle⟩
    · exact hok k (Nt▸hk)
    · rw[hb] at hk
      injection hk with hk;exact MC k (by omega)
 obtain⟨v1,w1,hr1,h1,hg,Nt⟩:=hrun;refine wpList_plain hgd λK hK=> ?_
 unfold Oper.wp execOp;simp only[ho,resolve,invoke,builtin,Sem.run_bind,Sem.run_pure,Result.andThen_ok,ASb,AQP,ASt,hs,hx,hr1];exact hK _ _ (h v1 w1 h1 (HB.grown hg hbase (Vu hown)) hg Nt)
end
end Kd
namespace Kd
section
variable {P:Program} {ops:Array Oper} {rest:List Oper} {o:Oper} {a:Act} {Q:Exit->Act->World->Prop} {α:Type}
end
end Kd
theorem add_add (a:Addr) (i j:Nat):(a.add i).add j=a.add (i+j):=by
 unfold Addr.add;by_cases h1:i=0<;>by_cases h2:j=0<;>simp[h1,h2,ARU]
namespace Kd
section
variable {α:Type} {k:Kd α} {w:World} {A:Option Addr} {xs:List α} {m c:Nat}
end
end Kd
section
variable {P:Program}
end
theorem J7 {w W:World} (h:Below w.heap.size w W):w.heap.size<=W.heap.size:=h.size
theorem U4 {w W w2:World} (h:Below w.heap.size w W) (k:Below W.heap.size W w2):Below w.heap.size w w2:=u5 h h.size k
theorem Ef.nil (W:World) (k:IntKind):Ef W k none ([]:List Int).length []:=⟨rfl,by simp,λh=>absurd h (ASh 0)⟩
theorem Ef.drewN {W:World} {k:IntKind} {A:Option Addr} {n:Nat} {xs:List Int} (h:Ef W k A n xs) (m:Nat):Ef (W.drewN m) k A n xs:=h
theorem AAI {w W:World} {g j:Nat} {v:Value} (h:Below w.heap.size w W) (hg:w.heap.size<=g):Below w.heap.size w (W.setCell ⟨g,j,none⟩ v):=h.setCell hg _
theorem jR {w W:World} {g:Nat} (h:FH w W g none) {a:Addr} {v:Value} (hc:w.cell? a=some v) (hne:a.block≠g):W.cell? a=some v:=by
 have:=h.2 a.block (World.block_lt_of_cell? w a hc) hne (by simp);simpa[World.cell?,this] using hc
theorem add_block (a:Addr) (i:Nat):(a.add i).block=a.block:=by unfold Addr.add;split<;>rfl
theorem DS.nil {α:Type} (enc:α->Value) (d:α) (W:World):DS enc d W none ([]:List α).length []:=⟨rfl,by simp,λh=>absurd h (ASh 0)⟩
theorem DS.drewN {α:Type} {enc:α->Value} {d:α} {W:World} {A:Option Addr} {n:Nat} {xs:List α} (h:DS enc d W A n xs) (m:Nat):DS enc d (W.drewN m) A n xs:=h
theorem Ef.keep {w W:World} {k:IntKind} {A:Option Addr} {n g:Nat} {xs:List Int} (h:Ef w k A n xs) (hk:FH w W g none) (hf : ∀ad,A=some ad->0<n->ad.block≠g):Ef W k A n xs :=
 ⟨h.1,h.2.1,λhn=>by
   obtain⟨ad,e,hc⟩:=h.2.2 hn;exact⟨ad,e,λj hj=>jR hk (hc j hj) (by rw[add_block];exact hf ad e hn)⟩⟩
theorem DS.keep {α:Type} {enc:α->Value} {d:α} {w W:World} {A:Option Addr} {n g:Nat} {xs:List α} (h:DS enc d w A n xs) (hk:FH w W g none) (hf : ∀ad,A=some ad->0<n->ad.block≠g):DS enc d W A n xs :=
 ⟨h.1,h.2.1,λhn=>by
   obtain⟨ad,e,hc⟩:=h.2.2 hn;exact⟨ad,e,λj hj=>jR hk (hc j hj) (by rw[add_block];exact hf ad e hn)⟩⟩
theorem Bv {base:Nat} {w W:World} (h:Below base w W):Below base w W.drew:=h.drew
namespace Kd
section
variable {α β:Type} {d:Kd α} {d':Kd β} {e e' base base' n:Nat} {ok ok':Nat->Prop} {w W w1 W1:World} {v u:Value} {xs:List α} {ys:List β} {A:Option Addr} {c:Nat}
end
section
variable {α:Type} {enc:α->Value} {h1 : ∀x,(enc x).oneCell'=true} {w W:World} {A:Option Addr} {n g:Nat} {xs:List α}
end
end Kd
namespace Kd
section
variable {α:Type} {d:Kd α} {e base g:Nat} {ok:Nat->Prop} {w w1:World} {v:Value} {xs:List α} {o:Obj}
end
end Kd
section
variable {P:Program} {ops:Array Oper} {rest:List Oper} {o:Oper} {a:Act} {Q:Exit->Act->World->Prop}
end
namespace Kd
section
variable {α:Type} {enc:α->Value} {h1 : ∀x,(enc x).oneCell'=true} {e base g n cap:Nat} {ok:Nat->Prop} {W:World} {xs:List α}
end
end Kd
section
variable {P:Program} {ops:Array Oper} {rest:List Oper} {o:Oper} {a:Act} {Q:Exit->Act->World->Prop}
end
namespace Kd
section
variable {α:Type} {enc:α->Value} {h1 : ∀x,(enc x).oneCell'=true} {e base g n cap:Nat} {ok:Nat->Prop} {W:World} {xs:List α}
end
end Kd
section
variable {P:Program} {ops:Array Oper} {rest:List Oper} {o:Oper} {a:Act} {Q:Exit->Act->World->Prop} {W:World}
theorem qP {N:Tmp} (_hN:o.dst=some N) (h:wpList P ops Q (o::rest) a W):wpList P ops Q (o::rest) a W:=h
end
section
variable {P:Program} {ops:Array Oper} {o:Oper} {a:Act} {Q:Exit->Act->World->Prop} {Kc:Act->World->Prop}
namespace Kd
variable {α:Type}
end Kd
end
section
variable {P:Program} {tmps:Array Value} {w:World}
end
namespace Kd
section
variable {P:Program} {α:Type}
end
section
variable {P:Program} {ops:Array Oper} {rest:List Oper} {o:Oper} {a:Act} {Q:Exit->Act->World->Prop} {Kc:Act->World->Prop} {α:Type}
end
end Kd
end Go.Proofs.YtjocbnjpjihpnaaGreatW.AD
end
section
namespace Go.Proofs.YtjocbnjpjihpnaaGreatW.AU
section
section
variable {P:Program} {ops:Array Oper} {Q:Exit->Act->World->Prop} {md:Region.Mode} {S:World->Prop} {ds:List Nat}
def Region.LM (md:Region.Mode) (ops:Array Oper) (i:Nat):Nat->Nat->Bool
 | 0,_=>false
 | fuel+1,d=>match ops[d]? with
   | some o=>o.after.any λe=>Region.binds md e&&(e.on==i || Region.LM md ops i fuel e.on)
   | none=>false
def Region.V0 (md:Region.Mode) (ops:Array Oper) (listed:Array Bool):Bool :=
 (List.range ops.size).all λj=> !listed.getD j false || match ops[j]? with
   | some o=>o.after.all λe=> !Region.binds md e || listed.getD e.on false
   | none=>true
def Region.yO (md:Region.Mode) (ops:Array Oper) (listed:Array Bool) (ds:List Nat) (i:Nat):Bool :=
 ds.all λd=>listed.getD d true || Region.LM md ops i ops.size d
def Gf (md:Region.Mode) (ops:Array Oper) (listed:Array Bool):Prop :=
 ∀j oj,ops[j]? =some oj->listed.getD j false=true-> ∀e∈oj.after,Region.binds md e=true->listed.getD e.on false=true
theorem Region.lU {listed:Array Bool} (h:Region.V0 md ops listed=true):Gf md ops listed:=by
 intro j oj hj hl e he hb;have hlt:j<ops.size:=(AQo.1 hj).1;have h1:=AQX.1 h j (AQ7.2 hlt);simp only[hl,hj,Bool.not_true,Bool.false_or] at h1;have h2:=Array.all_eq_true_iff_forall_mem.1 h1 e he;simpa[hb] using h2
theorem Gf.set {listed:Array Bool} {i:Nat} (h:Gf md ops listed) (hi:i∈Region.ready md ops listed):Gf md ops (listed.setIfInBounds i true):=by
 obtain⟨_,oi,hoi,hall⟩:=mem_ready.1 hi;intro j oj hj hl e he hb;by_cases hij:i=j
 · subst hij
   have:oj=oi:=ARu (hj.symm.trans hoi);subst this;exact getD_set_true (hall e he hb)
 · rw[getD_set_ne false hij] at hl
   exact getD_set_true (h j oj hj hl e he hb)
theorem Region.V1 {listed:Array Bool} {i:Nat} (hc:Gf md ops listed) : ∀(fuel d:Nat),Region.LM md ops i fuel d=true->listed.getD d false=true->listed.getD i false=true
 | 0,_,h,_=>by simp[Region.LM] at h
 | fuel+1,d,h,hl=>by
   unfold Region.LM at h;cases ho:ops[d]? with
   | none=>rw[ho] at h;simp at h
   | some o =>
     rw[ho] at h;obtain⟨e,he,h1⟩:=Array.any_eq_true'.1 h;simp only[APz,ARJ,beq_iff_eq] at h1;have hle:=hc d o ho hl e he h1.1;rcases h1.2 with h2 | h2
     · rw[<-h2];exact hle
     · exact Region.V1 hc fuel e.on h2 hle
theorem Region.Z4 {listed:Array Bool} {i d fuel:Nat} (hc:Gf md ops listed) (hr:Region.LM md ops i fuel d=true) (hun:listed.getD i true=false):d ∉ Region.ready md ops listed:=by
 intro hd;obtain⟨_,o,ho,hall⟩:=mem_ready.1 hd;have hi:listed.getD i false=true:=by
  cases fuel with
  | zero=>simp[Region.LM] at hr
  | succ n =>
    unfold Region.LM at hr;rw[ho] at hr;obtain⟨e,he,h1⟩:=Array.any_eq_true'.1 hr;simp only[APz,ARJ,beq_iff_eq] at h1;have hle:=hall e he h1.1;rcases h1.2 with h2 | h2
    · rw[<-h2];exact hle
    · exact Region.V1 hc n e.on h2 hle
 rcases AQS i listed.size with h' | h'
 · simp[h'] at hun hi
   rw[hun] at hi;cases hi
 · simp[ASL h'] at hun
def Ar (P:Program) (md:Region.Mode) (ops:Array Oper) (Q:Exit->Act->World->Prop) (S:World->Prop) (ds:List Nat):Nat->Array Bool->Act->World->Prop
 | 0,listed,a,w=>Region.ready md ops listed= []/\Q .normal a w
 | fuel+1,listed,a,w =>
   (Region.ready md ops listed= []->Q .normal a w) /\
   ∀i∈Region.ready md ops listed,wpOp P ops Q i (λa' w'=>(i ∉ ds->S w->S w')/\Ar P md ops Q S ds fuel (listed.setIfInBounds i true) a' w') a w
theorem Z5 {i:Nat} {oi:Oper} {v:Value} (hi:ops[i]? =some oi) (hsel : ∀(j:Nat) (o:Oper) cs b,ops[j]? =some o->o.op≠ .select cs b)
 (hQ : ∀c a w,Q (.panic c) (a.put oi.dst v) w->Q (.panic c) a w) (n:Nat) :
 ∀(fuel:Nat) (listed:Array Bool) (a:Act) (w:World),
  (∀j oj,ops[j]? =some oj->j≠i->listed.getD j true=false->(∀e∈oj.after,Region.binds md e=true->e.on≠i)->oi.apart ops oj=true) ->
  Gf md ops listed->(∀d∈ds,listed.getD d true=false->Region.LM md ops i n d=true) ->
  i∈Region.ready md ops listed->YieldsIf P ops S oi v a->S w ->
  Ar P md ops Q S ds fuel (listed.setIfInBounds i true) (a.put oi.dst v) w->Ar P md ops Q S ds (fuel+1) listed a w:=by
 intro fuel;induction fuel with
 | zero =>
   intro listed a w _ _ _ hr hy hS H;refine⟨λh=>(by rw[h] at hr;cases hr),λj hj=> ?_⟩;by_cases hji:j=i
   · subst hji;exact hy.wpOp hi hS ⟨λ_ h=>h,H⟩
   · have:=ready_mono hj hji
     rw[H.1] at this;cases this
 | succ fuel ih =>
   intro listed a w hfree hc hd hr hy hS H;refine⟨λh=>(by rw[h] at hr;cases hr),λj hj=> ?_⟩;by_cases hji:j=i
   · subst hji;exact hy.wpOp hi hS ⟨λ_ h=>h,H⟩
   · have h1:=H.2 j (ready_mono hj hji)
     obtain⟨vG,oj,hoj,hall⟩:=mem_ready.1 hj;have AAJ:=(mem_ready.1 hr).1;have hnot : ∀e∈oj.after,Region.binds md e=true->e.on≠i:=λe he hb heq=>by
      have h1:=hall e he hb;rw[heq] at h1;rcases AQS i listed.size with h' | h'
      · simp[h'] at AAJ h1;rw[AAJ] at h1;cases h1
      · simp[ASL h'] at h1
     have hjd:j ∉ ds:=λhm=>Region.Z4 hc (hd j hm vG) AAJ hj
     have h2:=wpOp_putIf hoj (hfree j oj hoj hji vG hnot) (λcs b=>hsel i oi cs b hi) (λcs b=>hsel j oj cs b hoj) hQ hy h1;have vH : ∀k ok,ops[k]? =some ok->k≠i->(listed.setIfInBounds j true).getD k true=false ->
      (∀e∈ok.after,Region.binds md e=true->e.on≠i)->oi.apart ops ok=true:=λk ok hk hki hun hno=>by
      refine hfree k ok hk hki ?_ hno;by_cases hjk:j=k
      · subst hjk;exact vG
      · rw[getD_set_ne true hjk] at hun;exact hun
     have hd' : ∀d∈ds,(listed.setIfInBounds j true).getD d true=false->Region.LM md ops i n d=true:=λd hm hun=>by
      refine hd d hm ?_;by_cases hjk:j=d
      · subst hjk;exact vG
      · rw[getD_set_ne true hjk] at hun;exact hun
     refine wpOp_mono (λa' w' h3=>⟨h3.2.1,ih (listed.setIfInBounds j true) a' w' vH (hc.set hj) hd' (ready_mono hr (ASz hji)) h3.1 (h3.2.1 hjd hS) ?_⟩) h2;rw[AS4 _ _ hji];exact h3.2.2
theorem hO {i:Nat} {oi:Oper} {v:Value} (hi:ops[i]? =some oi) (hsel : ∀(j:Nat) (o:Oper) cs b,ops[j]? =some o->o.op≠ .select cs b)
 (hQ : ∀c a w,Q (.panic c) (a.put oi.dst v) w->Q (.panic c) a w) :
 ∀(fuel:Nat) (listed:Array Bool) (a:Act) (w:World),
  (∀j oj,ops[j]? =some oj->j≠i->listed.getD j true=false->(∀e∈oj.after,Region.binds md e=true->e.on≠i)->oi.apart ops oj=true) ->
  i∈Region.ready md ops listed->Yields P ops oi v a ->
  Ar P md ops Q S ds fuel (listed.setIfInBounds i true) (a.put oi.dst v) w->Ar P md ops Q S ds (fuel+1) listed a w:=by
 intro fuel;induction fuel with
 | zero =>
   intro listed a w _ hr hy H;refine⟨λh=>(by rw[h] at hr;cases hr),λj hj=> ?_⟩;by_cases hji:j=i
   · subst hji;exact(hy.yieldsIf (S:=λ_=>True)).wpOp hi trivial ⟨λ_ h=>h,H⟩
   · have:=ready_mono hj hji
     rw[H.1] at this;cases this
 | succ fuel ih =>
   intro listed a w hfree hr hy H;refine⟨λh=>(by rw[h] at hr;cases hr),λj hj=> ?_⟩;by_cases hji:j=i
   · subst hji;exact(hy.yieldsIf (S:=λ_=>True)).wpOp hi trivial ⟨λ_ h=>h,H⟩
   · have h1:=H.2 j (ready_mono hj hji)
     obtain⟨vG,oj,hoj,hall⟩:=mem_ready.1 hj;have AAJ:=(mem_ready.1 hr).1;have hnot : ∀e∈oj.after,Region.binds md e=true->e.on≠i:=λe he hb heq=>by
      have h1:=hall e he hb;rw[heq] at h1;rcases AQS i listed.size with h' | h'
      · simp[h'] at AAJ h1;rw[AAJ] at h1;cases h1
      · simp[ASL h'] at h1
     have h2:=wpOp_put hoj (hfree j oj hoj hji vG hnot) (λcs b=>hsel i oi cs b hi) (λcs b=>hsel j oj cs b hoj) hQ hy h1;have vH : ∀k ok,ops[k]? =some ok->k≠i->(listed.setIfInBounds j true).getD k true=false ->
      (∀e∈ok.after,Region.binds md e=true->e.on≠i)->oi.apart ops ok=true:=λk ok hk hki hun hno=>by
      refine hfree k ok hk hki ?_ hno;by_cases hjk:j=k
      · subst hjk;exact vG
      · rw[getD_set_ne true hjk] at hun;exact hun
     refine wpOp_mono (λa' w' h3=>⟨h3.2.1,ih (listed.setIfInBounds j true) a' w' vH (ready_mono hr (ASz hji)) h3.1 ?_⟩) h2;rw[AS4 _ _ hji];exact h3.2.2
theorem cH {i:Nat} {oi:Oper} {v:Value} {fuel:Nat} {listed:Array Bool} {a:Act} {w:World} (hi:ops[i]? =some oi)
 (hs:Region.noSelect ops=true) (hf:Region.free md ops listed i=true) (hr:(Region.ready md ops listed).contains i=true)
 (hc:Region.V0 md ops listed=true) (hl:Region.yO md ops listed ds i=true)
 (hQ : ∀c a w,Q (.panic c) (a.put oi.dst v) w->Q (.panic c) a w) (hy:YieldsIf P ops S oi v a) (hS:S w)
 (h:Ar P md ops Q S ds fuel (listed.setIfInBounds i true) (a.put oi.dst v) w):Ar P md ops Q S ds (fuel+1) listed a w :=
 Z5 hi (Region.noSelect_spec hs) hQ ops.size fuel listed a w (Region.free_spec hi hf) (Region.lU hc)
  (λd hm hun=>by have:=AQX.1 hl d hm;rw[hun] at this;simpa using this) (by simpa using hr) hy hS h
theorem iA {rs:List Nat} {fuel:Nat} {listed:Array Bool} {a:Act} {w:World} (hr:Region.ready md ops listed=rs) (hne:rs≠ [])
 (h : ∀i∈rs,wpOp P ops Q i (λa' w'=>(i ∉ ds->S w->S w')/\Ar P md ops Q S ds fuel (listed.setIfInBounds i true) a' w') a w):Ar P md ops Q S ds (fuel+1) listed a w :=
 ⟨λh0=>absurd (hr▸h0) hne,hr▸h⟩
end
section
variable {P:Program} {ops:Array Oper} {Q:Exit->Act->World->Prop} {md:Region.Mode} {S:World->Prop} {ds:List Nat}
def Dq (P:Program) (md:Region.Mode) (ops:Array Oper) (Q:Exit->Act->World->Prop) (S:World->Prop) (ds:List Nat) (fuel:Nat) (listed:Array Bool) (a:Act) (w:World) (rs:List Nat):Prop :=
 ∀i∈rs,wpOp P ops Q i (λa' w'=>(i ∉ ds->S w->S w')/\Ar P md ops Q S ds fuel (listed.setIfInBounds i true) a' w') a w
theorem Dq.nil {fuel:Nat} {listed:Array Bool} {a:Act} {w:World} :Dq P md ops Q S ds fuel listed a w []:=λ_ h=>by cases h
theorem Dq.cons {fuel:Nat} {listed:Array Bool} {a:Act} {w:World} {i:Nat} {o:Oper} {rs:List Nat} (ho:ops[i]? =some o) (hd:i ∉ ds)
 (h : ∀K':Act->World->Prop,Shut (∀a w,S w->(S w->Ar P md ops Q S ds fuel (listed.setIfInBounds i true) a w)->K' a w)->if Region.wanted o (yielded ops a.tmps)=true then Oper.wp P o a w K' Q else K' (a.put o.dst undef) w)
 (hs:Dq P md ops Q S ds fuel listed a w rs):Dq P md ops Q S ds fuel listed a w (i::rs):=λj hj=>by
 rcases APv.1 hj with rfl | hj
 · exact wpOp_step ho (λK' hK=>h K' (λa w hS hW=>hK a w ⟨λ_ _=>hS,hW hS⟩))
 · exact hs j hj
theorem LN {rs:List Nat} {fuel:Nat} {listed:Array Bool} {a:Act} {w:World} (hr:Region.ready md ops listed=rs) (hne:rs≠ [])
 (h:Dq P md ops Q S ds fuel listed a w rs):Ar P md ops Q S ds (fuel+1) listed a w:=iA hr hne h
def qQ (md:Region.Mode) (ops:Array Oper) (ds:List Nat) (l l':Array Bool) (i:Nat):Bool :=
 Region.noSelect ops&&Region.free md ops l i&&(Region.ready md ops l).contains i&&Region.V0 md ops l&&Region.yO md ops l ds i&&(l.setIfInBounds i true==l')
theorem yK {i:Nat} {N:Option Tmp} {oi:Oper} {v:Value} {fuel:Nat} {l:Array Bool} {a:Act} {w:World} (l':Array Bool) (hi:ops[i]? =some oi) (hN:oi.dst=N) (hc:qQ md ops ds l l' i=true)
 (hQ : ∀c a w,Q (.panic c) (a.put oi.dst v) w->Q (.panic c) a w) (hy:YieldsIf P ops S oi v a) (hS:S w) {a':Act} (ha:a.put N v=a')
 (h:Ar P md ops Q S ds fuel l' a' w):Ar P md ops Q S ds (fuel+1) l a w:=by
 subst ha;subst hN;simp only[qQ,APz,beq_iff_eq] at hc;obtain⟨⟨⟨⟨⟨h1,h2⟩,h3⟩,h4⟩,h5⟩,h6⟩:=hc;subst h6;exact cH hi h1 h2 h3 h4 h5 hQ hy hS h
def AEW (md:Region.Mode) (ops:Array Oper) (l l':Array Bool) (i:Nat):Bool :=
 Region.noSelect ops&&Region.free md ops l i&&(Region.ready md ops l).contains i&&(l.setIfInBounds i true==l')
theorem AIq {i:Nat} {N:Option Tmp} {oi:Oper} {v:Value} {fuel:Nat} {l:Array Bool} {a:Act} {w:World} (l':Array Bool) (hi:ops[i]? =some oi) (hN:oi.dst=N) (hc:AEW md ops l l' i=true)
 (hQ : ∀c a w,Q (.panic c) (a.put oi.dst v) w->Q (.panic c) a w) (hy:Yields P ops oi v a) {a':Act} (ha:a.put N v=a')
 (h:Ar P md ops Q S ds fuel l' a' w):Ar P md ops Q S ds (fuel+1) l a w:=by
 subst ha;subst hN;simp only[AEW,APz,beq_iff_eq] at hc;obtain⟨⟨⟨h1,h2⟩,h3⟩,h6⟩:=hc;subst h6;exact hO hi (Region.noSelect_spec h1) hQ fuel l a w (Region.free_spec hi h2) (by simpa using h3) hy h
def lV (md:Region.Mode) (ops:Array Oper) (l l':Array Bool) (i:Nat):Bool:=(Region.ready md ops l== [i])&&(l.setIfInBounds i true==l')
theorem ALo {i:Nat} {N:Option Tmp} {oi:Oper} {fuel:Nat} {l:Array Bool} {a:Act} {w:World} (l':Array Bool) (hi:ops[i]? =some oi) (hN:oi.dst=N) (hc:lV md ops l l' i=true) (hd:i ∉ ds)
 (h : ∀K:Act->World->Prop,Shut (∀a' w',S w'->(S w'->Ar P md ops Q S ds fuel l' a' w')->K a' w')->if Region.wanted oi (yielded ops a.tmps)=true then Oper.wp P oi a w K Q else K (a.put N undef) w) :
 Ar P md ops Q S ds (fuel+1) l a w:=by
 subst hN;simp only[lV,APz,beq_iff_eq] at hc;obtain⟨h1,h2⟩:=hc;subst h2;exact LN h1 (by simp) (Dq.cons hi hd (λK hK=>h K hK) Dq.nil)
theorem APM {i j:Nat} {Ni Nj:Option Tmp} {oi oj:Oper} {fuel:Nat} {l:Array Bool} {a:Act} {w:World} (li lj:Array Bool) (hi:ops[i]? =some oi) (hj:ops[j]? =some oj) (hNi:oi.dst=Ni) (hNj:oj.dst=Nj)
 (hc:(Region.ready md ops l== [i,j]&&l.setIfInBounds i true==li&&l.setIfInBounds j true==lj)=true) (hdi:i ∉ ds) (hdj:j ∉ ds)
 (h1 : ∀K:Act->World->Prop,Shut (∀a' w',S w'->(S w'->Ar P md ops Q S ds fuel li a' w')->K a' w')->if Region.wanted oi (yielded ops a.tmps)=true then Oper.wp P oi a w K Q else K (a.put Ni undef) w)
 (h2 : ∀K:Act->World->Prop,Shut (∀a' w',S w'->(S w'->Ar P md ops Q S ds fuel lj a' w')->K a' w')->if Region.wanted oj (yielded ops a.tmps)=true then Oper.wp P oj a w K Q else K (a.put Nj undef) w) :
 Ar P md ops Q S ds (fuel+1) l a w:=by
 subst hNi;subst hNj;simp only[APz,beq_iff_eq] at hc;obtain⟨⟨h3,h4⟩,h5⟩:=hc;subst h4;subst h5;exact LN h3 (by simp) (Dq.cons hi hdi (λK hK=>h1 K hK) (Dq.cons hj hdj (λK hK=>h2 K hK) Dq.nil))
theorem ALp {i j k:Nat} {Ni Nj Nk:Option Tmp} {oi oj ok:Oper} {fuel:Nat} {l:Array Bool} {a:Act} {w:World} (li lj lk:Array Bool) (hi:ops[i]? =some oi) (hj:ops[j]? =some oj) (hk:ops[k]? =some ok) (hNi:oi.dst=Ni) (hNj:oj.dst=Nj) (hNk:ok.dst=Nk)
 (hc:(Region.ready md ops l== [i,j,k]&&l.setIfInBounds i true==li&&l.setIfInBounds j true==lj&&l.setIfInBounds k true==lk)=true) (hdi:i ∉ ds) (hdj:j ∉ ds) (hdk:k ∉ ds)
 (h1 : ∀K:Act->World->Prop,Shut (∀a' w',S w'->(S w'->Ar P md ops Q S ds fuel li a' w')->K a' w')->if Region.wanted oi (yielded ops a.tmps)=true then Oper.wp P oi a w K Q else K (a.put Ni undef) w)
 (h2 : ∀K:Act->World->Prop,Shut (∀a' w',S w'->(S w'->Ar P md ops Q S ds fuel lj a' w')->K a' w')->if Region.wanted oj (yielded ops a.tmps)=true then Oper.wp P oj a w K Q else K (a.put Nj undef) w)
 (h3 : ∀K:Act->World->Prop,Shut (∀a' w',S w'->(S w'->Ar P md ops Q S ds fuel lk a' w')->K a' w')->if Region.wanted ok (yielded ops a.tmps)=true then Oper.wp P ok a w K Q else K (a.put Nk undef) w) :
 Ar P md ops Q S ds (fuel+1) l a w:=by
 subst hNi;subst hNj;subst hNk;simp only[APz,beq_iff_eq] at hc;obtain⟨⟨⟨h4,h5⟩,h6⟩,h7⟩:=hc;subst h5;subst h6;subst h7;exact LN h4 (by simp) (Dq.cons hi hdi (λK hK=>h1 K hK) (Dq.cons hj hdj (λK hK=>h2 K hK) (Dq.cons hk hdk (λK hK=>h3 K hK) Dq.nil)))
def vI:Act->List (Tmp × Value)->Act
 | a,[]=>a
 | a,(n,v)::r=>vI (a.put (some n) v) r
theorem AO4 {σ:Type} {fuel:Nat} {l:Array Bool} {a:Act} {w:World} (fuel':Nat) (l':Array Bool) (ns:σ->List (Tmp × Value)) (F:σ->World->Prop)
 (AIr : ∀s w',F s w'->Ar P md ops Q S ds fuel' l' (vI a (ns s)) w')
 (h:(∀s w',F s w'->Ar P md ops Q S ds fuel' l' (vI a (ns s)) w')->Ar P md ops Q S ds fuel l a w):Ar P md ops Q S ds fuel l a w:=h AIr
theorem AIs {fuel:Nat} {l:Array Bool} {a a':Act} {w:World} (ha:a=a') (h:Ar P md ops Q S ds fuel l a' w):Ar P md ops Q S ds fuel l a w:=by
 subst ha;exact h
theorem yP {f : FuncId} {fn : Func} (hf : P.funcs[f]? = some fn) (hname : (fn.name == "runtime.NumGoroutine") = false) (hb : fn.body.isSome = true) (args : Array Value) (w : World) : (callFunc f args).run P w = .ok (.enter f args) w := by
 have h1 : fn.name ≠ "runtime.NumGoroutine" := by simpa using hname
 obtain⟨c,hc⟩:=Option.isSome_iff_exists.1 hb;simp[callFunc,hf,h1,hc]
theorem ABY {rest : List Oper} {oi : Oper} {a : Act} {w : World} (N : Option Tmp) (hd : oi.dst = N) (hg : oi.guard = none) {f : FuncId} {fn : Func} {as : Array Operand} {ts : Array TypeId} (hf : P.funcs[f]? = some fn) (hname : (fn.name == "runtime.NumGoroutine") = false) (hb : fn.body.isSome = true) (args : Array Value)
 (hop:oi.op= .call {callee:= .value (.func f),args:=as,argTypes:=ts}) (hargs:as.map a.eval=args)
 (h:Calls P f args w λe w'=> ∃v,e= .returned v/\wpList P ops Q rest (a.put N v) w'):wpList P ops Q (oi::rest) a w:=by
 refine wpList_plain hg λK hK=> ?_
 have he:=yP hf hname hb args w;have hrun:(execOp a.eval oi).run P w= .ok (.enter f args) w:=by
  unfold execOp;simp[hop,resolve,Deferred.ofValue,invoke,Act.eval,hargs,he]
 unfold Oper.wp;rw[hrun,Oper.upon_enter];refine h.mono λe w'' hh=> ?_
 obtain⟨v,rfl,hk⟩:=hh;subst hd;exact hK _ _ hk
theorem qR (n:Int):IntKind.i64.wrap n=Go.RowKit.wrap64 n:=by unfold Go.RowKit.wrap64;exact IntKind.wrap_i64 n
theorem ABZ (n:Int):IntKind.i32.wrap n=Go.RowKit.wrap32 n:=by unfold Go.RowKit.wrap32;exact IntKind.wrap_i32 n
end
end
end Go.Proofs.YtjocbnjpjihpnaaGreatW.AU
end
section
namespace Go.Proofs.YtjocbnjpjihpnaaGreatW.AD
open Go.RowKit
namespace Kd
def tag {α:Type} (f:Nat->Nat) (d:Kd α):Kd (α × Nat) where
 sz:=d.sz
 E:=d.E
 K:=λw x cs=>d.K w x.1 cs
 M:=λw base ok x cs=>d.M w base (λk=>ok k/\f k=x.2) x.1 cs
 EI:=λh=>d.EI h
 HK:=λh=>d.HK h
 EJ:=λhb h=>d.EJ hb h
 EP:=λh=>d.EP h
 Cx:=λhok h=>d.Cx (λk hk=>⟨hok k hk.1,hk.2⟩) h
 DT:=λh=>d.Cx (λ_ hk=>⟨⟨hk.1.1,hk.2⟩,hk.1.2⟩) (d.DT h)
 ER:=λhm h=>d.ER (λk hk=>hm k hk.1) h
 EK:=λhb h=>d.EK hb h
def bare {α:Type} (d:Kd α):Kd α where
 sz:=d.sz
 E:=d.E
 K:=d.K
 M:=λw base _ x cs=>d.M w base (λ_=>False) x cs
 EI:=λh=>d.EI h
 HK:=λh=>d.HK h
 EJ:=λhb h=>d.EJ hb h
 EP:=λh=>d.EP h
 Cx:=λ_ h=>h
 DT:=λh=>h
 ER:=λ_ h=>d.ER (λ_ hk=>hk.elim) h
 EK:=λhb h=>d.EK hb h
def raw (sz:Nat):Kd (List Value) where
 sz:=sz
 E:= []
 K:=λ_ x cs=>cs=x/\cs.length=sz/\ ∀u∈cs,u.oneCell'=true
 M:=λ_ _ _ x cs=>cs=x/\cs.length=sz/\ ∀u∈cs,u.oneCell'=true
 EI:=λh=>h.2.1
 HK:=λh=>h.2.2
 EJ:=λ_ h=>h
 EP:=λh=>h
 Cx:=λ_ h=>h
 DT:=λh=>h
 ER:=λ_ h=>h
 EK:=λ_ h=>h
def S {α:Type} (d:Kd α) (e:Nat) (w:World) (base:Nat) (ok:Nat->Prop) (v:Value) (xs:List α):Prop:= ∃f,(tag f d).R e w base ok v xs.zipIdx
section
variable {α β:Type} {d:Kd α} {d':Kd β} {e e':Nat} {w w1 W:World} {base b:Nat} {ok ok' okv oku:Nat->Prop} {u v:Value} {xs:List α} {ys:List β}
end
section
variable {α β:Type} {d:Kd α} {d':Kd β} {e e' g:Nat} {w w1 W:World} {base b:Nat} {ok ok' okv oku:Nat->Prop} {u v:Value} {xs:List α} {ys:List β}
end
section
open Classical in
variable {P:Program} {ops:Array Oper} {rest:List Oper} {o:Oper} {a:Act} {Q:Exit->Act->World->Prop} {Kc:Act->World->Prop} {α:Type}
end
def gap {α:Type} (f:Nat->Nat) (d:Kd α) (i:Nat) (c:List Value):Kd (α × Nat) where
 sz:=d.sz
 E:=d.E
 K:=λw x cs=>(x.2=i->cs=c/\cs.length=d.sz/\ ∀u∈cs,u.oneCell'=true)/\(x.2≠i->d.K w x.1 cs)
 M:=λw base ok x cs=>(x.2=i->cs=c/\cs.length=d.sz/\ ∀u∈cs,u.oneCell'=true)/\(x.2≠i->d.M w base (λk=>ok k/\f k=x.2) x.1 cs)
 EI:=λ{w x cs} h=>by
  by_cases hx:x.2=i
  · exact(h.1 hx).2.1
  · exact d.EI (h.2 hx)
 HK:=λ{w x cs} h=>by
  by_cases hx:x.2=i
  · exact(h.1 hx).2.2
  · exact d.HK (h.2 hx)
 EJ:=λhb h=>⟨h.1,λhx=>d.EJ hb (h.2 hx)⟩
 EP:=λh=>⟨h.1,λhx=>d.EP (h.2 hx)⟩
 Cx:=λhok h=>⟨h.1,λhx=>d.Cx (λk hk=>⟨hok k hk.1,hk.2⟩) (h.2 hx)⟩
 DT:=λh=>⟨h.1,λhx=>d.Cx (λ_ hk=>⟨⟨hk.1.1,hk.2⟩,hk.1.2⟩) (d.DT (h.2 hx))⟩
 ER:=λhm h=>⟨h.1,λhx=>d.ER (λk hk=>hm k hk.1) (h.2 hx)⟩
 EK:=λhb h=>⟨h.1,λhx=>d.EK hb (h.2 hx)⟩
def H {α:Type} (d:Kd α) (e:Nat) (w:World) (base:Nat) (ok:Nat->Prop) (v:Value) (xs:List α) (i:Int) (oki:Nat->Prop) (c:List Value):Prop :=
 (∀k,oki k->ok k)/\ ∃f,(gap f d i.toNat c).R e w base (λk=>ok k/\ ¬oki k) v xs.zipIdx
section
variable {α β:Type} {d:Kd α} {e e' g n cap:Nat} {w w1 W:World} {base:Nat} {ok ok' oki U3:Nat->Prop} {u v:Value} {xs:List α} {i:Int} {c:List Value}
open Classical in
end
section
variable {P:Program} {ops:Array Oper} {rest:List Oper} {o:Oper} {a:Act} {Q:Exit->Act->World->Prop} {α:Type}
end
end Kd
end Go.Proofs.YtjocbnjpjihpnaaGreatW.AD
end
section
namespace Go.Proofs.YtjocbnjpjihpnaaGreatW.AD
open Go.RowKit
namespace Kd
theorem ABa {α:Type} {R:α->List Value->Prop} {size:Nat} {ps:List α} {cs:List Value} (h:Bw R size ps cs) (hs0:0<size) (hR : ∀p c,R p c-> ∀u∈c,u.oneCell'=true) : ∀u∈cs,u.oneCell'=true:=by
 intro u hu;obtain⟨q,hq,rfl⟩:=ASd.1 hu;have hql:q/size<ps.length:=by
  rw[ASU hs0,<-h.1];exact hq
 refine hR _ _ (h.2 (q/size) _ (AP4 hql)) _ ?_;rw[ASV];refine⟨q%size, ?_⟩;rw[AQF,if_pos (Nat.mod_lt _ hs0),AQI,ARm,ATG,AP4 hq]
theorem qT {α:Type} {R:α->List Value->Prop} {size:Nat} {ps:List α} {cs:List Value} (h:Bw R size ps cs) {i:Nat} (hi:i<ps.length) {x:α} {seg:List Value} (hx:R x seg) (hl:seg.length=size):Bw R size (ps.set i x) (cs.take (i*size)++seg++cs.drop (i*size+seg.length)):=by
 have hfit:i*size+size<=cs.length:=by rw[h.1,<-AQh];exact AP8 _ hi
 refine⟨?_,λm p hm=> ?_⟩
 · rw[AQb,<-h.1]
   simp only[AP3,APx,AQR];omega
 · have hml:m<ps.length:=by
    have:=(APw.1 hm).1
    rwa [AQb] at this
   by_cases hmi:m=i
   · subst hmi
     rw[AQe hml] at hm;injection hm with hm;subst hm;rw[show((cs.take (m*size)++seg++cs.drop (m*size+seg.length)).drop (m*size)).take size=seg by
      rw[AQ6,List.drop_left' (by rw[APx];omega),List.take_left' hl]]
     exact hx
   · rw[AQE (ASz hmi)] at hm
     have hmf:m*size+size<=cs.length:=(by rw[h.1,<-AQh];exact AP8 _ hml);rw[show((cs.take (i*size)++seg++cs.drop (i*size+seg.length)).drop (m*size)).take size=(cs.drop (m*size)).take size from by
      apply AQy;intro q;rw[AQF,AQF,AQI,AQI,S7 cs seg _ (by omega)];by_cases hq:q<size
      · rw[if_pos hq,if_pos hq]
        rcases Nat.lt_or_gt_of_ne hmi with hlt | hgt
        · have:m*size+size<=i*size:=by rw[<-AQh];exact AP8 _ hlt
          rw[if_pos (by omega)]
        · have:i*size+size<=m*size:=by rw[<-AQh];exact AP8 _ hgt
          rw[if_neg (by omega),if_neg (by omega)]
      · rw[if_neg hq,if_neg hq]]
     exact h.2 m p hm
def arr {α:Type} (n:Nat) (d:Kd α) (hs:0<d.sz):Kd (List α) where
 sz:=n*d.sz
 E:=d.E
 K:=λw xs cs=>xs.length=n/\Bw (d.K w) d.sz xs cs
 M:=λw base ok xs cs=>xs.length=n/\Bw (d.M w base ok) d.sz xs cs
 EI:=λh=>by rw[<-h.1];exact h.2.1
 HK:=λh=>ABa h.2 hs (λ_ _ hk=>d.HK hk)
 EJ:=λhb h=>⟨h.1,h.2.HW (λ_ _ hk=>d.EJ hb hk)⟩
 EP:=λh=>⟨h.1,h.2.HW (λ_ _ hk=>d.EP hk)⟩
 Cx:=λhok h=>⟨h.1,h.2.HW (λ_ _ hk=>d.Cx hok hk)⟩
 DT:=λh=>⟨h.1,h.2.HW (λ_ _ hk=>d.DT hk)⟩
 ER:=λhm h=>⟨h.1,h.2.HW (λ_ _ hk=>d.ER hm hk)⟩
 EK:=λhb h=>⟨h.1,h.2.HW (λ_ _ hk=>d.EK hb hk)⟩
section
variable {α:Type} {n:Nat} {d:Kd α} {hs:0<d.sz} {w:World} {base:Nat} {ok:Nat->Prop} {xs:List α} {cs:List Value}
end
section
variable {α:Type} {n:Nat} {enc:α->Value} {h1 : ∀x,(enc x).oneCell'=true} {hs:0<(scalar enc h1).sz} {w:World} {base:Nat} {ok:Nat->Prop} {xs:List α} {cs:List Value}
end
end Kd
end Go.Proofs.YtjocbnjpjihpnaaGreatW.AD
end
section
namespace Go.Proofs.YtjocbnjpjihpnaaGreatW.AD
open Go.RowKit
namespace Kd
structure Heap {α:Type} (d:Kd α):Prop where
 K : ∀ {w w1:World} {x:α} {cs:List Value},(∀k,k<w.heap.size->w1.heap[k]? =w.heap[k]?)->d.K w x cs->d.K w1 x cs
theorem AAK {w w1:World} (hb : ∀k,k<w.heap.size->w1.heap[k]? =w.heap[k]?) {a:Addr} {v:Value} (h:w.cell? a=some v):w1.cell? a=some v:=by
 have:=hb a.block (World.block_lt_of_cell? w a h);simpa[World.cell?,this] using h
theorem Heap.C {α:Type} {d:Kd α} (hd:Heap d) {w w1:World} {A:Option Addr} {n:Nat} {xs:List α} (hb : ∀k,k<w.heap.size->w1.heap[k]? =w.heap[k]?) (h:d.C w A n xs):d.C w1 A n xs :=
 ⟨h.1,h.2.1,λhn=>by
   obtain⟨ad,e,hc⟩:=h.2.2 hn;refine⟨ad,e,λj p hj=> ?_⟩;obtain⟨c,hs,hr,hcell⟩:=hc j p hj;exact⟨c,hs,hd.K hb hr,λi u hu=>AAK hb (hcell i u hu)⟩⟩
section
variable {α:Type} {d:Kd α} {e base g n c:Nat} {ok:Nat->Prop} {w w0 W:World} {A:Option Addr} {xs:List α}
end
end Kd
end Go.Proofs.YtjocbnjpjihpnaaGreatW.AD
end
section
namespace Go.Proofs.YtjocbnjpjihpnaaGreatW.AD
open Go.RowKit
def Kept (w W:World) (S:Nat->Prop):Prop:=w.heap.size<=W.heap.size/\ ∀i,i<w.heap.size-> ¬S i->W.heap[i]? =w.heap[i]?
section
variable {w W W2:World} {S S2 S':Nat->Prop}
theorem Kept.refl (w:World) (S:Nat->Prop):Kept w w S:=⟨AP1 _,λ_ _ _=>rfl⟩
theorem Kept.qK (h:Below w.heap.size w W) (S:Nat->Prop):Kept w W S:=⟨h.size,λi hi _=>h.block i hi⟩
theorem Kept.mono (h:Kept w W S) (hs : ∀k,S k->S' k):Kept w W S':=⟨h.1,λi hi hn=>h.2 i hi (λhk=>hn (hs i hk))⟩
theorem Kept.AF7 (h:Kept w W S) (k:Kept W W2 S2) (hs : ∀k,S2 k->S k\/w.heap.size<=k):Kept w W2 S :=
 ⟨AQp h.1 k.1,λi hi hn=>(k.2 i (AQk hi h.1) (λh2=>(hs i h2).elim hn (λh3=>by omega))).trans (h.2 i hi hn)⟩
theorem Kept.below (h:Kept w W S) (hb:Below W.heap.size W W2):Kept w W2 S:=h.AF7 (Kept.qK hb (λ_=>False)) (λ_ hk=>hk.elim)
theorem Kept.alloc (h:Kept w W S) (o:Obj):Kept w (W.alloc o) S:=h.below (BK (Below.refl _ _) o)
theorem Kept.drew (h:Kept w W S):Kept w W.drew S:=h
theorem Kept.drewN (h:Kept w W S) (m:Nat):Kept w (W.drewN m) S:=h
theorem Kept.setCell (h:Kept w W S) {p:Addr} (hp:S p.block\/w.heap.size<=p.block) (u:Value):Kept w (W.setCell p u) S :=
 h.AF7 (S2:=λk=>k=p.block) ⟨by simp[World.setCell],λi _ hn=>Below.heap_setCell W p u i hn⟩ (λk hk=>by rw[hk];exact hp)
theorem Kept.keep {g:Nat} (h:FH w W g none) (k:Kept W W2 S2) (hs : ∀k,S2 k->w.heap.size<=k):FH w W2 g none :=
 ⟨AQp h.1 k.1,λi hi hg hr=>(k.2 i (AQk hi h.1) (λh2=>by have:=hs i h2;omega)).trans (h.2 i hi hg hr)⟩
end
namespace Kd
section
variable {α:Type} {d:Kd α} {e base n c:Nat} {ok oki S S2:Nat->Prop} {w w0 W W1 W2:World} {v:Value} {A:Option Addr} {xs:List α} {i:Int} {cs:List Value}
end
end Kd
end Go.Proofs.YtjocbnjpjihpnaaGreatW.AD
end
section
namespace Go.Proofs.YtjocbnjpjihpnaaGreatW.AD
open Go.RowKit
def U5 (P:World->Prop) (W:World) (ok:Nat->Prop):Prop:= ∀W':World,(∀k,ok k->k<W.heap.size->W'.heap[k]? =W.heap[k]?)->P W'
theorem AEX {W W1:World} {k:Nat} (h:W1.heap[k]? =W.heap[k]?) (hlt:k<W.heap.size):k<W1.heap.size:=by
 rw[AR6 hlt] at h;exact(AQo.1 h).1
namespace U5
variable {P Q:World->Prop} {W W1:World} {ok ok':Nat->Prop}
theorem now (h:U5 P W ok):P W:=h W (λ_ _ _=>rfl)
theorem mono (h:U5 P W ok) (hok : ∀k,ok k->ok' k):U5 P W ok':=λW' hW=>h W' (λk hk hlt=>hW k (hok k hk) hlt)
theorem bound (h:U5 P W ok):U5 P W (λk=>ok k/\k<W.heap.size):=λW' hW=>h W' (λk hk hlt=>hW k ⟨hk,hlt⟩ hlt)
theorem step (h:U5 P W ok) (hm : ∀k,ok k->k<W.heap.size->W1.heap[k]? =W.heap[k]?):U5 P W1 ok:=λW' hW=>h W' (λk hk hlt=>(hW k hk (AEX (hm k hk hlt) hlt)).trans (hm k hk hlt))
theorem imp (h:U5 P W ok) (hi : ∀W',P W'->Q W'):U5 Q W ok:=λW' hW=>hi W' (h W' hW)
theorem old (h:U5 P W ok) (hb:Below W.heap.size W W1):U5 P W1 (λk=>ok k/\k<W.heap.size):=(h.bound).step (λk _ hlt=>hb.block k hlt)
end U5
namespace Kd
def F {α:Type} (d:Kd α) (W:World) (ok:Nat->Prop) (A:Option Addr) (n:Nat) (xs:List α):Prop:=U5 (λW=>d.C W A n xs) W ok
def FK {α:Type} (d:Kd α) (W:World) (ok:Nat->Prop) (x:α) (c:List Value):Prop:=U5 (λW=>d.K W x c) W ok
section
variable {α β:Type} {d:Kd α} {e base n n' cc g N:Nat} {ok ok' U3 S:Nat->Prop} {w w0 w1 W W1:World} {A A':Option Addr} {u v v1:Value} {xs:List α} {xs':List β} {d':Kd β} {x:α} {c:List Value}
end
end Kd
end Go.Proofs.YtjocbnjpjihpnaaGreatW.AD
end
section
namespace Go.Proofs.YtjocbnjpjihpnaaGreatW.AD
open Go.RowKit
section
variable {P:Program}
end
namespace Kd
section
variable {P:Program} {ops:Array Oper} {rest:List Oper} {o:Oper} {a:Act} {Q:Exit->Act->World->Prop} {Kc:Act->World->Prop} {α:Type}
end
section
variable {α:Type} {d:Kd α} {e:Nat} {w:World} {base:Nat} {ok:Nat->Prop} {v:Value} {xs:List α}
end
section
variable {P:Program} {ops:Array Oper} {rest:List Oper} {o:Oper} {a:Act} {Q:Exit->Act->World->Prop} {Kc:Act->World->Prop} {α:Type}
end
end Kd
end Go.Proofs.YtjocbnjpjihpnaaGreatW.AD
end
section
namespace Go.Proofs.YtjocbnjpjihpnaaGreatW.AD
open Go.RowKit
namespace Kd
section
variable {α:Type} {d:Kd α} {e base n cc g:Nat} {ok ok' U3 S:Nat->Prop} {w w1 W W1:World} {A:Option Addr} {u v v1:Value} {xs:List α} {x:α} {c:List Value}
def N {α:Type} (d:Kd α) (e:Nat) (w:World) (base:Nat) (ok:Nat->Prop) (v:Value) (xs:List α):Prop :=
 (∀k,v.ownBlock=some k->ok k)/\ ∃rows:List (List Value),rows.length=xs.length/\(raw d.sz).R e w base (λk=>some k=v.ownBlock) v rows/\ ∀(j:Nat) (x:α) (c:List Value),xs[j]? =some x->rows[j]? =some c->FK d w (λk=>ok k/\some k≠v.ownBlock) x c
end
end Kd
end Go.Proofs.YtjocbnjpjihpnaaGreatW.AD
end
section
namespace Go.Proofs.YtjocbnjpjihpnaaGreatW.AD
open Go.RowKit
namespace Kd
section
variable {α:Type} {d:Kd α} {W:World} {g n:Nat} {S ok:Nat->Prop} {A:Option Addr} {ad:Addr} {xs:List α}
end
end Kd
end Go.Proofs.YtjocbnjpjihpnaaGreatW.AD
end
section
namespace Go.Proofs.YtjocbnjpjihpnaaGreatW.AD
open Go.RowKit
section
variable {w w' u:World} {m B g:Nat} {o:Obj} {row:Option Nat} {S:Nat->Prop} {a:Addr} {v:Value}
end
namespace Kd
section
variable {α:Type} {d:Kd α} {e base n m:Nat} {ok:Nat->Prop} {w w':World} {v:Value} {A:Option Addr} {xs:List α}
end
end Kd
end Go.Proofs.YtjocbnjpjihpnaaGreatW.AD
end
section
namespace Go.Proofs.YtjocbnjpjihpnaaGreatW.AD
open Go.RowKit
section
section
variable {P:Program} {d:Nat} {xs ys:Array Value} {f:Field} {fs:List Field} {a b:Value} {r s:Bool} {w:World}
end
end
end Go.Proofs.YtjocbnjpjihpnaaGreatW.AD
end
section
namespace Go.Proofs.YtjocbnjpjihpnaaGreatW.AU
open Go.Proofs.YtjocbnjpjihpnaaGreatW.AD (Bn)
section
def PB (md:Region.Mode) (o:Oper):List Nat:=(o.after.toList.filter (λe=>Region.binds md e)).map (λe=>e.on)
def lW (md:Region.Mode) (ops:Array Oper) (i:Nat) (oi:Oper):List Nat:=(List.range ops.size).filter λj=> !(j==i)&&match ops[j]? with
 | some oj=> !(oj.after.any (λe=>Region.binds md e&&e.on==i) || oi.apart ops oj)
 | none=>false
def OQ (md:Region.Mode) (ops:Array Oper):Bool × List (List Nat × List Nat):=(Region.noSelect ops,(List.range ops.size).map λi=>match ops[i]? with
 | some o=>(PB md o,lW md ops i o)
 | none=>([],[]))
def Mt (T:List (List Nat × List Nat)) (l:List Bool) (i:Nat):Bool:= !l.getD i true&&match T[i]? with
 | some r=>r.1.all (λj=>l.getD j false)
 | none=>false
def cI (T:List (List Nat × List Nat)) (l:List Bool):List Nat:=(List.range T.length).filter (Mt T l)
def qU (T:List (List Nat × List Nat)) (l:List Bool) (i:Nat):Bool:=match T[i]? with
 | some r=>r.2.all (λj=>l.getD j true)
 | none=>false
def au (T:List (List Nat × List Nat)) (l:List Bool):Bool:=(List.range T.length).all λj=> !l.getD j false || match T[j]? with
 | some r=>r.1.all (λk=>l.getD k false)
 | none=>true
def X5 (T:List (List Nat × List Nat)) (i:Nat):Nat->Nat->Bool
 | 0,_=>false
 | fuel+1,d=>match T[d]? with
   | some r=>r.1.any λj=>j==i || X5 T i fuel j
   | none=>false
def yQ (T:List (List Nat × List Nat)) (l:List Bool) (ds:List Nat) (i:Nat):Bool:=ds.all λd=>l.getD d true || X5 T i T.length d
section
variable {md:Region.Mode} {ops:Array Oper} {T:Bool × List (List Nat × List Nat)} {l l' li lj lk:Array Bool} {ds:List Nat} {i j k:Nat}
theorem gd (l:Array Bool) (j:Nat) (b:Bool):l.getD j b=l.toList.getD j b:=by simp[AQZ,APt]
theorem X6 (o:Oper) (p:Nat->Bool):o.after.all (λe=> !Region.binds md e || p e.on)=(PB md o).all p:=by
 unfold PB;rw[<-Array.all_toList];induction o.after.toList with
 | nil=>rfl
 | cons e r ih =>
   rw[ASJ,ih,List.filter_cons];cases h:Region.binds md e<;>simp
theorem AAL (o:Oper) (p:Nat->Bool):o.after.any (λe=>Region.binds md e&&p e.on)=(PB md o).any p:=by
 unfold PB;rw[<-Array.any_toList];induction o.after.toList with
 | nil=>rfl
 | cons e r ih =>
   rw[List.any_cons,ih,List.filter_cons];cases h:Region.binds md e<;>simp
theorem Mu:(OQ md ops).2.length=ops.size:=by simp[OQ]
theorem S8 {o:Oper} (h:ops[i]? =some o):(OQ md ops).2[i]? =some (PB md o,lW md ops i o):=by
 have hi:=(AQo.1 h).1;unfold OQ;rw[ARl,ASD hi,ASk,h]
theorem S9 (h:ops[i]? =none):(OQ md ops).2[i]? =none:=by
 have hi:ops.size<=i:=Array.getElem?_eq_none_iff.1 h;exact AQO (by rw[Mu];exact hi)
theorem vJ:Mt (OQ md ops).2 l.toList i=(!l.getD i true&&((ops[i]?).map (·.after.all λe=> !Region.binds md e || l.getD e.on false)).getD false):=by
 unfold Mt;rw[gd];cases h:ops[i]? with
 | none=>rw[S9 h];rfl
 | some o =>
   rw[S8 h];simp only[ASk,AR9];rw[<-X6];simp only[gd]
theorem qV:Region.ready md ops l=cI (OQ md ops).2 l.toList:=by
 unfold Region.ready cI;rw[Mu];refine List.filter_congr (λi _=> ?_);rw[vJ]
theorem free_eq:Region.free md ops l i=qU (OQ md ops).2 l.toList i:=by
 unfold Region.free qU;cases h:ops[i]? with
 | none=>rw[S9 h]
 | some oi =>
   rw[S8 h];simp only[lW];rw[List.all_filter]
   congr 1
   funext j
   rw[gd];cases hj:ops[j]? with
   | none=>cases(j==i)<;>cases(l.toList.getD j true)<;>simp
   | some oj =>
     cases(j==i)<;>cases(l.toList.getD j true)<;>cases(oj.after.any (λe=>Region.binds md e&&e.on==i) || oi.apart ops oj)<;>simp_all
theorem closed_eq:Region.V0 md ops l=au (OQ md ops).2 l.toList:=by
 unfold Region.V0 au;rw[Mu]
 congr 1
 funext j
 rw[gd];cases h:ops[j]? with
 | none=>rw[S9 h]
 | some o =>
   rw[S8 h];simp only;rw[<-X6];simp only[gd]
theorem reach_eq : ∀(fuel d:Nat),Region.LM md ops i fuel d=X5 (OQ md ops).2 i fuel d
 | 0,_=>rfl
 | fuel+1,d=>by
   unfold Region.LM X5;cases h:ops[d]? with
   | none=>rw[S9 h]
   | some o =>
     rw[S8 h];simp only;rw[<-AAL]
     congr 1
     funext e
     rw[reach_eq fuel]
theorem last_eq:Region.yO md ops l ds i=yQ (OQ md ops).2 l.toList ds i:=by
 unfold Region.yO yQ;rw[Mu]
 congr 1
 funext d
 rw[gd,reach_eq]
theorem Yt (h:Mt T.2 l.toList i=true) (hT:OQ md ops=T):(Region.ready md ops l).contains i=true:=by
 subst hT;rw[qV];unfold cI;rw[List.contains_iff_mem,List.mem_filter,AQ7];refine⟨?_,h⟩;unfold Mt at h;rw[APz] at h;cases hq:(OQ md ops).2[i]? with
 | none=>rw[hq] at h;simp at h
 | some r=>exact(APw.1 hq).1
theorem vK (h:(l.toList.set i true==l'.toList)=true):(l.setIfInBounds i true==l')=true:=by
 rw[beq_iff_eq] at h ⊢;apply ATM;rw[ASr];exact h
def AHC (T:Bool × List (List Nat × List Nat)) (l l':List Bool) (i:Nat):Bool:=T.1&&qU T.2 l i&&Mt T.2 l i&&(l.set i true==l')
theorem AHD (hT:OQ md ops=T) (h:AHC T l.toList l'.toList i=true):AEW md ops l l' i=true:=by
 simp only[AHC,APz] at h;obtain⟨⟨⟨h1,h2⟩,h3⟩,h4⟩:=h;have h5:=Yt h3 hT;have h6:=vK h4;subst hT;simp only[AEW,APz];exact⟨⟨⟨h1,by rw[free_eq];exact h2⟩,h5⟩,h6⟩
def ABb (T:Bool × List (List Nat × List Nat)) (ds:List Nat) (l l':List Bool) (i:Nat):Bool:=T.1&&qU T.2 l i&&Mt T.2 l i&&au T.2 l&&yQ T.2 l ds i&&(l.set i true==l')
theorem AEY (hT:OQ md ops=T) (h:ABb T ds l.toList l'.toList i=true):qQ md ops ds l l' i=true:=by
 simp only[ABb,APz] at h;obtain⟨⟨⟨⟨⟨h1,h2⟩,h3⟩,h4⟩,h5⟩,h6⟩:=h;have h7:=Yt h3 hT;have h8:=vK h6;subst hT;simp only[qQ,APz];exact⟨⟨⟨⟨⟨h1,by rw[free_eq];exact h2⟩,h7⟩,by rw[closed_eq];exact h4⟩,by rw[last_eq];exact h5⟩,h8⟩
theorem AHE (hT:OQ md ops=T) (h:(cI T.2 l.toList== [i]&&l.toList.set i true==l'.toList)=true):lV md ops l l' i=true:=by
 simp only[APz] at h;obtain⟨h1,h2⟩:=h;subst hT;simp only[lV,APz];exact⟨by rw[qV];exact h1,vK h2⟩
def upM (B:List Nat) (d:Nat):List Nat->Nat
 | []=>0
 | n::r=>(2^n ||| (if n<d then B.getD n 0 else 0)) ||| upM B d r
def lY (T:List (List Nat × List Nat)) (B:List Nat):Bool:=(List.range T.length).all λd=>match T[d]? with
 | some r=>(B.getD d 0 ||| upM B d r.1)==upM B d r.1
 | none=>false
theorem yR {B:List Nat} {d i:Nat} : ∀ {ns:List Nat},(upM B d ns).testBit i=true-> ∃n∈ns,n=i\/(n<d/\(B.getD n 0).testBit i=true)
 | [],h=>by simp[upM] at h
 | n::r,h=>by
   unfold upM at h;rw[ASR,ASR,ARJ,ARJ] at h;rcases h with(h | h) | h
   · rw[ASE] at h
     exact⟨n,APq, .inl (by simpa using h)⟩
   · by_cases hn:n<d
     · rw[if_pos hn] at h
       exact⟨n,APq, .inr ⟨hn,h⟩⟩
     · rw[if_neg hn] at h
       simp at h
   · obtain⟨m,hm,h2⟩:=yR h
     exact⟨m,APp _ hm,h2⟩
theorem jS {T:List (List Nat × List Nat)} {B:List Nat} (hB:lY T B=true) : ∀(fuel d:Nat),d<fuel->d<T.length->(B.getD d 0).testBit i=true->X5 T i fuel d=true
 | 0,d,h,_,_=>by omega
 | fuel+1,d,h,hd,hb=>by
   have h1:=AQX.1 hB d (AQ7.2 hd);cases hr:T[d]? with
   | none=>rw[hr] at h1;simp at h1
   | some r =>
     rw[hr] at h1;simp only[beq_iff_eq] at h1;have h2:(upM B d r.1).testBit i=true:=(by rw[<-h1,ASR,hb,ATN]);obtain⟨n,hn,h3⟩:=yR h2;unfold X5;rw[hr];simp only;rw[List.any_eq_true];refine⟨n,hn, ?_⟩;rcases h3 with rfl | ⟨h4,h5⟩
     · simp
     · rw[jS hB fuel n (by omega) (by omega) h5,Bool.or_true]
def AF8 (T:List (List Nat × List Nat)) (B:List Nat) (l:List Bool) (ds:List Nat) (i:Nat):Bool:=ds.all λd=>l.getD d true || (decide (d<T.length)&&(B.getD d 0).testBit i)
def ABc (T:Bool × List (List Nat × List Nat)) (B ds:List Nat) (l l':List Bool) (i:Nat):Bool:=T.1&&qU T.2 l i&&Mt T.2 l i&&au T.2 l&&AF8 T.2 B l ds i&&(l.set i true==l')
theorem ABd {B:List Nat} (hT:OQ md ops=T) (hB:lY T.2 B=true) (h:ABc T B ds l.toList l'.toList i=true):qQ md ops ds l l' i=true:=by
 refine AEY hT ?_;simp only[ABc,ABb,APz] at h ⊢;obtain⟨⟨⟨⟨⟨h1,h2⟩,h3⟩,h4⟩,h5⟩,h6⟩:=h;refine⟨⟨⟨⟨⟨h1,h2⟩,h3⟩,h4⟩, ?_⟩,h6⟩;unfold AF8 at h5;unfold yQ;rw[AQX] at h5 ⊢;intro d hd;have h7:=h5 d hd;rw[ARJ,APz,decide_eq_true_eq] at h7;rcases h7 with h7 | ⟨h8,h9⟩
 · rw[h7,ATN]
 · rw[jS hB _ d h8 h8 h9,Bool.or_true]
end
end
section
section
variable {P:Program} {ops:Array Oper} {Q:Exit->Act->World->Prop} {md:Region.Mode} {S:World->Prop} {ds:List Nat} {T:Bool × List (List Nat × List Nat)}
end
end
end Go.Proofs.YtjocbnjpjihpnaaGreatW.AU
end
section
namespace Go.Proofs.YtjocbnjpjihpnaaGreatW.AD
open Go.RowKit
section
section
variable {P:Program} {ops:Array Oper} {rest:List Oper} {o:Oper} {a:Act} {Q:Exit->Act->World->Prop} {W:World}
end
end
end Go.Proofs.YtjocbnjpjihpnaaGreatW.AD
end
section
namespace Go.Proofs.YtjocbnjpjihpnaaGreatW.AU
section
def up (b:Nat->Bool) (i:Nat):Nat->Bool:=λj=>if j=i then true else b j
section
variable {P:Program} {ops:Array Oper} {Q:Exit->Act->World->Prop} {md:Region.Mode} {T:Bool × List (List Nat × List Nat)} {B O:List Nat} {b:Nat->Bool} {i j n:Nat}
def X7 (T:List (List Nat × List Nat)) (O:List Nat) (b:Nat->Bool):Prop:= ∀d r,T[d]? =some r->O.contains d=true->b d=true-> ∀n∈r.1,O.contains n=true->b n=true
end
end
end Go.Proofs.YtjocbnjpjihpnaaGreatW.AU
end
section
namespace Go.Proofs.YtjocbnjpjihpnaaGreatW.AD
open Go.RowKit
end Go.Proofs.YtjocbnjpjihpnaaGreatW.AD
namespace Go.Proofs.YtjocbnjpjihpnaaGreatW.AU
section
variable {ops:Array Oper} {a:Act} {o og:Oper} {g:Nat} {t:Tmp} {u:Bool}
end
end Go.Proofs.YtjocbnjpjihpnaaGreatW.AU
end
section
namespace Go.Proofs.YtjocbnjpjihpnaaGreatW.AD
open Go.RowKit
namespace Kd
section
variable {α:Type} {d:Kd α} {e base g o n cap:Nat} {ok U3:Nat->Prop} {w W:World} {v:Value} {xs:List α}
theorem ALq (h:d.Q e w base ok v xs) (hp:0<xs.length) : ∃g o cap,v= .slice (some ⟨g,o,none⟩) xs.length cap/\base<=g/\g<w.heap.size/\ ∃cells,w.heap[g]? =some (.cells cells e (0,0)):=by
 obtain⟨h0,inner,hq,hr⟩:=h;rcases hq.2 with⟨h1,_⟩ | ⟨g,off,cap,cur,rfl,hb,hh,r⟩
 · omega
 · exact⟨g,off*d.sz,cap,rfl,hb,cA hh,cur,hh⟩
theorem ABe (h:d.Q e W base ok (.slice (some ⟨g,o,none⟩) n cap) xs) (z:α) (i:Int) (h0:0<=i) (h1:i<n) :
 ∃c,c.length=d.sz/\d.M W base (λk=>ok k/\k≠g) (xs.getD i.toNat z) c/\(∀j u,c[j]? =some u->W.cell? ⟨g,o+i.toNat*d.sz+j,none⟩=some u)/\ ∀j,W.frozen? ⟨g,o+i.toNat*d.sz+j,none⟩=false:=by
 obtain⟨hn,hnc,hC⟩:=cG h;obtain⟨_,inner,ho,hr⟩:=h;have hil:i.toNat<xs.length:=by omega
 have AHF:i.toNat*d.sz+d.sz<=inner.length:=by rw[hr.1,<-AQh];exact AP8 _ hil
 have hM:=hr.2 i.toNat _ (AP4 hil);refine⟨(inner.drop (i.toNat*d.sz)).take d.sz,by rw[APx,AQR];omega, ?_,λj u hu=> ?_,λj=> ?_⟩
 · rw[APt,AP4 hil]
   exact d.Cx (λk hk=>⟨hk.1,λhe=>hk.2 (by rw[he];simp[Value.ownBlock])⟩) hM
 · rw[AQF] at hu
   split at hu
   · rw[AQI] at hu
     subst hn;obtain⟨ad,he,hc⟩:=yN ho (by omega);injection he with he;subst he;have:=hc _ u hu
     rwa [JA,<-ARU] at this
   · cases hu
 · obtain⟨_,cells,hc⟩:=AEU ho g (by simp[Value.ownBlock])
   exact cB hc _
theorem AIt (h:d.Q e W base ok (.slice (some ⟨g,o,none⟩) n cap) xs) (i:Int) (h0:0<=i) (h1:i<n) {c seg:List Value} {j:Nat} (hcl:c.length=d.sz) (hcc : ∀j u,c[j]? =some u->W.cell? ⟨g,o+i.toNat*d.sz+j,none⟩=some u)
 (hj:j+seg.length<=d.sz) {x':α} (hM:d.M W base U3 x' (c.take j++seg++c.drop (j+seg.length))) (lT : ∀k,U3 k->ok k/\k≠g) :
 d.Q e (W.setCells g (o+i.toNat*d.sz+j) seg) base ok (.slice (some ⟨g,o,none⟩) n cap) (xs.set i.toNat x')/\W.grownBy (W.setCells g (o+i.toNat*d.sz+j) seg) (some g):=by
 obtain⟨hn,hnc,_⟩:=cG h;obtain⟨hok,inner,ho,hr⟩:=h;have hil:i.toNat<xs.length:=by omega
 have AHF:i.toNat*d.sz+d.sz<=inner.length:=by rw[hr.1,<-AQh];exact AP8 _ hil
 have hin:inner.length=n*d.sz:=by rw[hr.1,hn]
 obtain⟨ho1,ho2⟩:=ho;rcases ho2 with⟨hz,_⟩ | ⟨g',off,cap',cur,hv,hb,hh,APN,hcm,hcs,ht⟩
 · omega
 injection hv with ha _ hc;injection ha with ha;injection ha with hg hoff;subst hg;subst hc;subst hoff;have hcap:n*d.sz<=cap*d.sz:=AP8 _ hnc;have APO:cur.size=off*d.sz+cap*d.sz:=by rw[hcs,ASC]
 have hfit:off*d.sz+i.toNat*d.sz+j+seg.length<=cur.size:=by omega
 obtain⟨cur',h3,h4,h5⟩:=Vz seg (off*d.sz+i.toNat*d.sz+j) W cur hh hfit;obtain⟨s1,s2,s3,s4⟩:=UA g seg (off*d.sz+i.toNat*d.sz+j) W;have AHG : ∀k,k≠g->(W.setCells g (off*d.sz+i.toNat*d.sz+j) seg).heap[k]? =W.heap[k]? :=λk hk=>Vy seg _ k hk
 rw[<-hn] at ht;have Nt : ∀q,q<n*d.sz->cur.toList[off*d.sz+q]? =inner[q]? :=by
  intro q hq;rw[<-ht,AQF,if_pos hq,AQI]
 have hcin : ∀q,q<d.sz->c[q]? =inner[i.toNat*d.sz+q]? :=by
  intro q hq;have hq':q<c.length:=by omega
  have h6:=hcc q _ (AP4 hq');rw[cell_of_row W g _ cur e (0,0) hh] at h6;rw[AP4 hq',<-h6,<-Nt _ (by omega),ATE,ARU]
 refine⟨⟨hok,inner.take (i.toNat*d.sz+j)++seg++inner.drop (i.toNat*d.sz+j+seg.length),⟨?_, .inr ⟨g,off,cap,cur',by rw[AQb,hn],hb,h3,by rw[AQb,<-hn];exact hnc,hcm,by rw[h4,hcs], ?_⟩⟩, ?_⟩,
  ⟨s1,s2,s3,by rw[s4];exact AP1 _,λk _ hk=>AHG k (λhe=>hk (by rw[he]))⟩⟩
 · rw[AQb]
   simp only[AP3,APx,AQR];rw[hr.1] at AHF ⊢;omega
 · rw[AQb,<-hn]
   apply AQy;intro q;rw[AQF,AQI,h5];rw[S7 cur.toList seg (off*d.sz+i.toNat*d.sz+j) (by rw[ASj];omega) (off*d.sz+q),S7 inner seg (i.toNat*d.sz+j) (by omega) q];by_cases hq:q<n*d.sz
   · rw[if_pos hq]
     by_cases hq1:q<i.toNat*d.sz+j
     · rw[if_pos (by omega),if_pos hq1,Nt q hq]
     · rw[if_neg (by omega),if_neg hq1]
       by_cases hq2:q<i.toNat*d.sz+j+seg.length
       · rw[if_pos (by omega),if_pos hq2]
         congr 1
         omega
       · rw[if_neg (by omega),if_neg hq2,Nt q hq]
   · rw[if_neg hq,if_neg (by omega),if_neg (by omega),AQO (by omega)]
 · refine⟨?_,λm p hm=> ?_⟩
   · rw[AQb]
     simp only[AP3,APx,AQR];rw[hr.1] at AHF ⊢;omega
   · have hml:m<xs.length:=by
      have:=(APw.1 hm).1
      rwa [AQb] at this
     have AO5:m*d.sz+d.sz<=inner.length:=(by rw[hr.1,<-AQh];exact AP8 _ hml);have hgo:some g=(Value.slice (some ⟨g,off*d.sz,none⟩) n cap).ownBlock:=(by simp[Value.ownBlock]);by_cases hmi:m=i.toNat
     · subst hmi
       rw[AQe (by omega)] at hm;injection hm with hm;subst hm;have vL:((inner.take (i.toNat*d.sz+j)++seg++inner.drop (i.toNat*d.sz+j+seg.length)).drop (i.toNat*d.sz)).take d.sz=c.take j++seg++c.drop (j+seg.length):=by
        apply AQy;intro q;rw[AQF,AQI,S7 inner seg _ (by omega),S7 c seg j (by omega) q];by_cases hq:q<d.sz
        · rw[if_pos hq,hcin q hq]
          by_cases hq1:q<j
          · rw[if_pos (by omega),if_pos hq1]
          · rw[if_neg (by omega),if_neg hq1]
            by_cases hq2:q<j+seg.length
            · rw[if_pos (by omega),if_pos hq2]
              congr 1
              omega
            · rw[if_neg (by omega),if_neg hq2]
        · rw[if_neg hq,if_neg (by omega),if_neg (by omega),AQO (by omega)]
       rw[vL];refine d.Cx (λk hk=> ?_) (d.ER (w1:=W.setCells g (off*d.sz+i.toNat*d.sz+j) seg) (λk hk=>AHG k (lT k hk).2) hM);exact⟨(lT k hk).1,λhe=>(lT k hk).2 (by rw[<-hgo] at he;injection he)⟩
     · rw[AQE (by omega)] at hm
       have hold:=hr.2 m p hm;have vL:((inner.take (i.toNat*d.sz+j)++seg++inner.drop (i.toNat*d.sz+j+seg.length)).drop (m*d.sz)).take d.sz=(inner.drop (m*d.sz)).take d.sz:=by
        apply AQy;intro q;rw[AQF,AQF,AQI,AQI,S7 inner seg _ (by omega)];by_cases hq:q<d.sz
        · rw[if_pos hq,if_pos hq]
          rcases Nat.lt_or_gt_of_ne hmi with hlt | hgt
          · have:m*d.sz+d.sz<=i.toNat*d.sz:=by rw[<-AQh];exact AP8 _ hlt
            rw[if_pos (by omega)]
          · have:i.toNat*d.sz+d.sz<=m*d.sz:=by rw[<-AQh];exact AP8 _ hgt
            rw[if_neg (by omega),if_neg (by omega)]
        · rw[if_neg hq,if_neg hq]
       rw[vL];refine d.ER (λk hk=>AHG k (λhe=>hk.2 (by rw[he];exact hgo))) hold
end
section
variable {α:Type} {enc:α->Value} {h1 : ∀x,(enc x).oneCell'=true} {e base g o n cap:Nat} {ok:Nat->Prop} {W:World} {xs:List α}
theorem ALr (d:α) (h:(scalar enc h1).Q e W base ok (.slice (some ⟨g,o,none⟩) n cap) xs) (i:Int) (h0:0<=i) (hi:i<n):W.cell? ⟨g,o+i.toNat,none⟩=some (enc (AER d xs i))/\W.frozen? ⟨g,o+i.toNat,none⟩=false:=by
 obtain⟨c,_,hM,hcc,hf⟩:=ABe h d i h0 hi;have hM':c= [enc (xs.getD i.toNat d)]:=hM;subst hM';have h2:=hcc 0 _ rfl;have h3:=hf 0;rw[show(scalar enc h1).sz=1 from rfl,AS9,ASu] at h2 h3;exact⟨h2,h3⟩
theorem ALs (h:(scalar enc h1).Q e W base ok (.slice (some ⟨g,o,none⟩) n cap) xs) (i:Int) (h0:0<=i) (hi:i<n) (x:α):(scalar enc h1).Q e (W.setCell ⟨g,o+i.toNat,none⟩ (enc x)) base ok (.slice (some ⟨g,o,none⟩) n cap) (xs.set i.toNat x)/\W.grownBy (W.setCell ⟨g,o+i.toNat,none⟩ (enc x)) (some g):=by
 have hp:0<xs.length:=by have:=(cG h).1;omega
 obtain⟨c,hcl,_,hcc,_⟩:=ABe h (xs[0]'hp) i h0 hi;have h2:=AIt h i h0 hi (c:=c) (seg:= [enc x]) (j:=0) (U3:=λ_=>False) (x':=x) hcl hcc (AP1 1) (by
  have hl:c.length=1:=hcl;show c.take 0++ [enc x]++c.drop (0+1)= [enc x];rw[AQN (by omega)];rfl) (λ_ hk=>hk.elim)
 rw[show(scalar enc h1).sz=1 from rfl,AS9,ASu] at h2;exact h2
end
end Kd
end Go.Proofs.YtjocbnjpjihpnaaGreatW.AD
end
section
namespace Go.Proofs.YtjocbnjpjihpnaaGreatW.AD
open Go.RowKit
namespace Kd
section
variable {α:Type} {d:Kd α} {e base n cap g:Nat} {ok ok' U3:Nat->Prop} {w w1 W:World} {v v1:Value} {xs ys:List α}
end
section
variable {P:Program} {ops:Array Oper} {rest:List Oper} {o:Oper} {a:Act} {Q:Exit->Act->World->Prop} {Kc:Act->World->Prop} {α:Type}
end
end Kd
end Go.Proofs.YtjocbnjpjihpnaaGreatW.AD
end
section
namespace Go.Proofs.YtjocbnjpjihpnaaGreatW.Ac
open Go.RowKit Go.Proofs.YtjocbnjpjihpnaaGreatW.AD
namespace Kd
open Go.Proofs.YtjocbnjpjihpnaaGreatW.AD.Kd
end Kd
namespace Kd
open Go.Proofs.YtjocbnjpjihpnaaGreatW.AD.Kd
section
variable {α:Type} {d:Kd α} {e base g N:Nat} {ok:Nat->Prop} {W w1:World} {u v:Value} {xs:List α}
end
end Kd
theorem cJ (k k':IntKind) (x y:Int):Builtin.max2 (.int k x) (.int k' y)=pure (.int k (if x<y then y else x)):=by simp only[Builtin.max2,gt_iff_lt]
theorem cK (k k':IntKind) (x y:Int):Builtin.min2 (.int k x) (.int k' y)=pure (.int k (if y<x then y else x)):=by simp only[Builtin.min2]
theorem yS (ats:Array TypeId) (ty:TypeId) (a b:Value):Builtin.max_ ats ty #[a,b]=(Builtin.max2 a b >>= λs=>pure s):=by simp only[Builtin.max_,ARq,ARv]
theorem yT (ats:Array TypeId) (ty:TypeId) (a b:Value):Builtin.min_ ats ty #[a,b]=(Builtin.min2 a b >>= λs=>pure s):=by simp only[Builtin.min_,ARq,ARv]
theorem jT (ats:Array TypeId) (ty:TypeId) (a b c:Value):Builtin.max_ ats ty #[a,b,c]=(Builtin.max2 a b >>= λs=>Builtin.max2 s c >>= λs=>pure s):=by simp only[Builtin.max_,ARq,ARv]
theorem jU (ats:Array TypeId) (ty:TypeId) (a b c:Value):Builtin.min_ ats ty #[a,b,c]=(Builtin.min2 a b >>= λs=>Builtin.min2 s c >>= λs=>pure s):=by simp only[Builtin.min_,ARq,ARv]
theorem qW (ats:Array TypeId) (ty:TypeId) (a b c d:Value):Builtin.max_ ats ty #[a,b,c,d]=(Builtin.max2 a b >>= λs=>Builtin.max2 s c >>= λs=>Builtin.max2 s d >>= λs=>pure s):=by simp only[Builtin.max_,ARq,ARv]
theorem qX (ats:Array TypeId) (ty:TypeId) (a b c d:Value):Builtin.min_ ats ty #[a,b,c,d]=(Builtin.min2 a b >>= λs=>Builtin.min2 s c >>= λs=>Builtin.min2 s d >>= λs=>pure s):=by simp only[Builtin.min_,ARq,ARv]
end Go.Proofs.YtjocbnjpjihpnaaGreatW.Ac
namespace Go.Proofs.YtjocbnjpjihpnaaGreatW.AD
open Go.RowKit
section
variable {P:Program} {ops:Array Oper} {rest:List Oper} {o:Oper} {a:Act} {Q:Exit->Act->World->Prop} {W:World}
theorem Yu {f:FuncId} {as:Array Operand} {ts:Array TypeId} (_ho:o.op= .call {callee:= .value (.func f),args:=as,argTypes:=ts}) (h:wpList P ops Q (o::rest) a W):wpList P ops Q (o::rest) a W:=h
theorem PC {b:Builtin} {xs:Array Operand} {ts:Array TypeId} (_ho:o.op= .call {callee:= .builtin b,args:=xs,argTypes:=ts}) (h:wpList P ops Q (o::rest) a W):wpList P ops Q (o::rest) a W:=h
end
def mx (a b:Int):Int:=if a<b then b else a
def mn (a b:Int):Int:=if b<a then b else a
def shl (k:IntKind) (x y:Int):Int:=k.wrap (x*2^min y.toNat k.bits)
def shr (k:IntKind) (x y:Int):Int:=x/2^min y.toNat k.bits
namespace Kd
section
variable {α:Type} {d:Kd α} {e base:Nat} {ok:Nat->Prop} {W w1:World} {v:Value} {xs:List α}
end
section
variable {α:Type} {d:Kd α} {e base g n cap:Nat} {ok oki U3:Nat->Prop} {W:World} {xs:List α} {i:Int} {c:List Value}
end
section
variable {α:Type} {d:Kd α} {e base b b' g N:Nat} {ok ok1:Nat->Prop} {W W2 w1:World} {u v:Value} {xs ys:List α} {S:Nat->Prop}
end
end Kd
end Go.Proofs.YtjocbnjpjihpnaaGreatW.AD
namespace Go.Proofs.YtjocbnjpjihpnaaGreatW.AD
open Go.RowKit
namespace Kd
def V {α:Type} (d:Kd α) (_e:Nat) (W:World) (_base:Nat) (ok:Nat->Prop) (v:Value) (xs:List α):Prop:= ∃A c,v= .slice A xs.length c/\xs.length<=c/\F d W ok A xs.length xs
section
variable {α β:Type} {d:Kd α} {e base base' n m c g N' lo hi:Nat} {ok ok' S:Nat->Prop} {w W w1:World} {A:Option Addr} {ad:Addr} {u v v1:Value} {xs:List α}
end
end Kd
end Go.Proofs.YtjocbnjpjihpnaaGreatW.AD
end
section
set_option linter.unusedVariables false
set_option linter.unusedSimpArgs false
namespace Go.Proofs.YtjocbnjpjihpnaaGreatW.AD
open Go.RowKit
theorem lZ {α:Type} {Rr:α->List Value->Prop} {sz:Nat} {w:World} {A:Option Addr} {n m:Nat} {xs:List α} (h:n=m) (H:E7 Rr sz w A n xs):E7 Rr sz w A m xs:=h▸H
namespace Kd
section
variable {P:Program} {ops:Array Oper} {rest:List Oper} {o:Oper} {a:Act} {Q:Exit->Act->World->Prop} {W:World} {Kc:Act->World->Prop}
variable {α:Type}
theorem iB (d:Kd α) (base e:Nat) (z:Value) (hz:z.cells.size=d.sz) (hs0:0<d.sz) (z0:α) {ok U3:Nat->Prop} (hzero:d.M W base U3 z0 z.cells.toList) (hok : ∀k,U3 k->ok k) (MC:ok W.heap.size)
 (n c:Nat) (hnc:n<=c) (hm:c<=9223372036854775807) (hbase:base<=W.heap.size) :
 d.R e (W.alloc (.cells (madeCells z.cells (c*d.sz)) e)) base ok (.slice (some ⟨W.heap.size,0,none⟩) n c) (List.replicate n z0):=by
 have vF:=jQ (R:=d.M W base U3) hz hs0 hzero c;have hR:d.R e (W.alloc (.cells (madeCells z.cells (c*d.sz)) e)) base ok (.slice (some ⟨W.heap.size,0,none⟩) c c) (List.replicate c z0):=by
  refine⟨λk hk=> ?_,(madeCells z.cells (c*d.sz)).toList, ?_, ?_⟩
  · have:W.heap.size=k:=by simpa[Value.ownBlock] using hk
    subst this;exact MC
  · have h2:=World.ownsRow_lit (base:=base) (e:=e) (size:=d.sz) W (madeCells z.cells (c*d.sz)) c hbase (by simpa[maxLen] using hm) (by simpa using vF.1)
    simpa using h2
  · refine vF.HW (λp c' hp=>d.Cx (λk hk=>⟨hok k hk.1,λhe=> ?_⟩) (yM (d.DT hp) (BK (Below.refl _ _) _)))
    have h3:k=W.heap.size:=(by simpa[Value.ownBlock] using he);have:=hk.2.2.1;omega
 have h:=AG9 (m:=n) hR (by simpa using hnc)
 rwa [List.take_replicate,AQB hnc] at h
theorem AAM (d:Kd α) {w0 W:World} (base e:Nat) (hgd:o.guard=none) {N:Tmp} (hd:o.dst=some N) (t:TypeId) (x y:Operand) (ho:o.op= .makeSlice t x y) (n c:Int) (hx:a.eval x= .int .i64 n) (hy:a.eval y= .int .i64 c)
 (ht:P.underlying t=some (.slice e)) (z:Value) (bytes:Nat) (hinfo:(P.info? e).map (λi=>(i.zero,i.size,i.bytes))=some (some z,d.sz,bytes)) (hz:z.cells.size=d.sz) (hs0:0<d.sz) (hb0:0<bytes)
 (z0:α) {ok U3:Nat->Prop} (hzero:d.M W base U3 z0 z.cells.toList) (hok : ∀k,U3 k->ok k) (MC:ok W.heap.size) (h0:0<=n) (hnc:n<=c) (hl:c.toNat*bytes<=281474976710656) (HB:Below base w0 W) (hbase:base<=W.heap.size)
 (h : ∀v1 w1,d.R e w1 base ok v1 (List.replicate n.toNat z0)->Below base w0 w1->W.grownBy w1 none->(∃b,v1.ownBlock=some b/\W.heap.size<=b)->wpList P ops Q rest (a.put o.dst v1) w1):wpList P ops Q (o::rest) a W:=by
 obtain⟨m,rfl⟩:=AP0 h0;obtain⟨q,rfl⟩:=AP0 (ARn h0 hnc);simp only[APr] at hl h;obtain⟨i0,hi,hzz⟩:=AQl.1 hinfo;simp only[ARo] at hzz;obtain⟨uk,hz1,hz2⟩:=hzz;have hm:q<=281474976710656:=AQp (ARO _ hb0) hl;have hr:=run_make (P:=P) W t e i0 z ht hi uk .i64 .i64 (m:Int) (q:Int) (by omega) (by omega)
  (by
    have h3:((i0.bytes*q:Nat):Int)<=281474976710656:=by rw[hz2,ARm];omega
    rwa [ARw] at h3) (by omega)
 simp only[APr] at hr;rw[hz1] at hr;have hrun:(execOp a.eval o).run P W= .ok (.value (.slice (some ⟨W.heap.size,0,none⟩) m q)) (W.alloc (.cells (madeCells z.cells (q*d.sz)) e)):=by
  simp[execOp,ho,hx,hy,hr]
 exact jP hgd hrun (h _ _ (iB d base e z hz hs0 z0 hzero hok MC m q (by omega) (by omega) hbase) (HB.alloc hbase _) (World.grownBy_alloc W _ none) ⟨W.heap.size,by simp[Value.ownBlock],AP1 _⟩)
end
end Kd
end Go.Proofs.YtjocbnjpjihpnaaGreatW.AD
end
section
namespace Go.Proofs.YtjocbnjpjihpnaaGreatW.AD
section
theorem Bw.one {α:Type} {R:α->List Value->Prop} {ps:List α} {cs:List Value} {p:α} {v:Value} (hp:R p [v]) (h:Bw R 1 ps cs):Bw R 1 (p::ps) (v::cs):=by
 refine⟨by simp[h.1],λj q hq=> ?_⟩;cases j with
 | zero =>
   simp only[ARF,ARz] at hq;subst hq;simpa using hp
 | succ j =>
   simp only[AQ9] at hq;have h1:=h.2 j q hq;simpa[AS9] using h1
theorem Bw.front {α:Type} {R:α->List Value->Prop} {size:Nat} {ps:List α} {cs c all:List Value} {p:α} (hp:R p c) (hc:c.length=size) (h:Bw R size ps cs) (ha:c++cs=all):Bw R size (p::ps) all:=by
 subst ha;refine⟨by rw[AP3,hc,h.1,AQW,AQh,ASW],λj q hq=> ?_⟩;cases j with
 | zero =>
   simp only[ARF,ARz] at hq;subst hq;rw[Nat.zero_mul,ARh,ARB (by omega),AP5 (by omega)];exact hp
 | succ j =>
   simp only[AQ9] at hq;have h1:=h.2 j q hq;rw[AQh,ARp,ARc (by rw[hc];exact Nat.le_add_left _ _),ARk,hc,ARs];exact h1
theorem Bw.c2 {α:Type} {R:α->List Value->Prop} {ps:List α} {cs:List Value} {p:α} {va vb:Value} (hp:R p [va,vb]) (h:Bw R 2 ps cs):Bw R 2 (p::ps) (va::vb::cs):=Bw.front hp rfl h rfl
theorem Bw.c3 {α:Type} {R:α->List Value->Prop} {ps:List α} {cs:List Value} {p:α} {va vb vc:Value} (hp:R p [va,vb,vc]) (h:Bw R 3 ps cs):Bw R 3 (p::ps) (va::vb::vc::cs):=Bw.front hp rfl h rfl
theorem Bw.c4 {α:Type} {R:α->List Value->Prop} {ps:List α} {cs:List Value} {p:α} {va vb vc vd:Value} (hp:R p [va,vb,vc,vd]) (h:Bw R 4 ps cs):Bw R 4 (p::ps) (va::vb::vc::vd::cs):=Bw.front hp rfl h rfl
theorem Bw.c5 {α:Type} {R:α->List Value->Prop} {ps:List α} {cs:List Value} {p:α} {va vb vc vd ve:Value} (hp:R p [va,vb,vc,vd,ve]) (h:Bw R 5 ps cs):Bw R 5 (p::ps) (va::vb::vc::vd::ve::cs):=Bw.front hp rfl h rfl
theorem Bw.c6 {α:Type} {R:α->List Value->Prop} {ps:List α} {cs:List Value} {p:α} {va vb vc vd ve vf:Value} (hp:R p [va,vb,vc,vd,ve,vf]) (h:Bw R 6 ps cs):Bw R 6 (p::ps) (va::vb::vc::vd::ve::vf::cs):=Bw.front hp rfl h rfl
theorem Bw.c7 {α:Type} {R:α->List Value->Prop} {ps:List α} {cs:List Value} {p:α} {va vb vc vd ve vf vg:Value} (hp:R p [va,vb,vc,vd,ve,vf,vg]) (h:Bw R 7 ps cs):Bw R 7 (p::ps) (va::vb::vc::vd::ve::vf::vg::cs):=Bw.front hp rfl h rfl
theorem Bw.c10 {α:Type} {R:α->List Value->Prop} {ps:List α} {cs:List Value} {p:α} {va vb vc vd ve vf vg vh vi vj:Value} (hp:R p [va,vb,vc,vd,ve,vf,vg,vh,vi,vj]) (h:Bw R 10 ps cs):Bw R 10 (p::ps) (va::vb::vc::vd::ve::vf::vg::vh::vi::vj::cs):=Bw.front hp rfl h rfl
end
end Go.Proofs.YtjocbnjpjihpnaaGreatW.AD
end
section
namespace Go.Proofs.YtjocbnjpjihpnaaGreatW.Ac
open Go.RowKit Go.Proofs.YtjocbnjpjihpnaaGreatW.AD Go.Proofs.YtjocbnjpjihpnaaGreatW.AU
section
inductive Yv:World->World->Prop where
 | refl (w:World):Yv w w
 | alloc {w w':World} (h:Yv w w') (o:Obj):Yv w (w'.alloc o)
 | drewN {w w':World} (h:Yv w w') (n:Nat):Yv w (w'.drewN n)
 | drew {w w':World} (h:Yv w w'):Yv w w'.drew
class Nx (w w':World):Prop where
 g:Yv w w'
instance {w:World} :Nx w w:=⟨.refl w⟩
instance {w w':World} {o:Obj} [h:Nx w w']:Nx w (w'.alloc o):=⟨.alloc h.g o⟩
instance {w w':World} {n:Nat} [h:Nx w w']:Nx w (w'.drewN n):=⟨.drewN h.g n⟩
instance {w w':World} [h:Nx w w']:Nx w w'.drew:=⟨.drew h.g⟩
theorem st {α:Type} {d:Kd α} {e:Nat} {w w':World} {base:Nat} {ok:Nat->Prop} {v:Value} {xs:List α} (r:d.R e w base ok v xs) [h:Nx w w']:d.R e w' base ok v xs:=by
 obtain⟨g⟩:=h;induction g with
 | refl=>exact r
 | alloc _ o ih=>exact Kd.KZ ih o
 | drewN _ n ih=>exact Kd.Ka ih n
 | drew _ ih=>exact Kd.Nu ih
theorem cs {α:Type} {d:Kd α} {w w':World} {xs:List α} {A:Option Addr} {n:Nat} (r:d.C w A n xs) [h:Nx w w']:d.C w' A n xs:=by
 obtain⟨g⟩:=h;induction g with
 | refl=>exact r
 | alloc _ o ih=>exact Kd.Vv ih o
 | drewN _ m ih=>exact Kd.Vx ih m
 | drew _ ih=>exact Kd.cF ih
theorem bb {w0 w w':World} (r:Below w0.heap.size w0 w) [h:Nx w w']:Below w0.heap.size w0 w':=by
 obtain⟨g⟩:=h;induction g with
 | refl=>exact r
 | alloc _ o ih=>exact BK ih o
 | drewN _ n ih=>exact At ih n
 | drew _ ih=>exact Bv ih
theorem hbb {p:Prop} (h:p:=by repeat (first | (with_reducible first | exact HB.out | apply BK | apply At | apply Bv | refine AAI ?_ (Bn.out (by assumption))) | exact HB.out)):p:=h
theorem lx {p:Prop} (h:p:=by(try simp only[ASb,AQP,ASt]);first | done | rfl | (simp only[AQR,APx];rfl) | (simp only[*];done)):p:=h
theorem er {p:Prop} (h:p:=by first | rfl | (simp[J8,KA]<;>rfl) | (simp[*,J8,KA]<;>rfl)):p:=h
section
variable {w:World} {g:Nat} {t:TypeId} {c0 c1 c2 c3 c4 c5:Value}
end
section
variable {P:Program} {md:Region.Mode} {ops:Array Oper} {Q:Exit->Act->World->Prop} {S:World->Prop} {ds:List Nat} {T:Bool × List (List Nat × List Nat)}
theorem pu (i:Nat) (N:Option Tmp) {oi:Oper} {v:Value} {fuel:Nat} {l:Array Bool} {a a':Act} {w:World} (hT:Bn (OQ md ops=T))
 (h:Ar P md ops Q S ds fuel (l.setIfInBounds i true) a' w)
 (hi:ops[i]? =some oi:=by rfl) (hN:oi.dst=N:=by rfl) (hc:AHC T l.toList (l.setIfInBounds i true).toList i=true:=by kernel_rfl)
 (hQ : ∀c a w,Q (.panic c) (a.put oi.dst v) w->Q (.panic c) a w:=by exact λ_ _ _ h=>h)
 (hy:Yields P ops oi v a:=by exact Or.inl ⟨by rfl,by intro w';go_simp;with_reducible rfl⟩)
 (ha:a.put N v=a':=by simp only[Act.put,ARd,ASv,ARf,qR,ABZ];rfl):Ar P md ops Q S ds (fuel+1) l a w :=
 AIq _ hi hN (AHD hT.out hc) hQ hy ha h
theorem ta (i:Nat) (N:Option Tmp) {oi:Oper} {v:Value} {fuel:Nat} {l:Array Bool} {a a':Act} {w:World} {B:List Nat} (hT:Bn (OQ md ops=T)) (hB:Bn (lY T.2 B=true)) (hS:S w)
 (h:Ar P md ops Q S ds fuel (l.setIfInBounds i true) a' w)
 (hi:ops[i]? =some oi:=by rfl) (hN:oi.dst=N:=by rfl) (hc:ABc T B ds l.toList (l.setIfInBounds i true).toList i=true:=by kernel_rfl)
 (hQ : ∀c a w,Q (.panic c) (a.put oi.dst v) w->Q (.panic c) a w:=by exact λ_ _ _ h=>h)
 (hy:YieldsIf P ops S oi v a:=by exact Or.inl ⟨by rfl,by intro w' hs;(repeat (have s:=hs.1;replace hs:=hs.2));go_simp;with_reducible rfl⟩)
 (ha:a.put N v=a':=by simp only[Act.put,ARd,ASv,ARf,qR,ABZ];rfl):Ar P md ops Q S ds (fuel+1) l a w :=
 yK _ hi hN (ABd hT.out hB.out hc) hQ hy hS ha h
theorem nm {fuel:Nat} {l:Array Bool} {a a':Act} {w:World} (h:Ar P md ops Q S ds fuel l a' w)
 (ha:a=a':=by show Act.put _ _ _=_;simp only[Act.put,ARd,ASv,ARf,qR,ABZ];rfl):Ar P md ops Q S ds fuel l a w:=AIs ha h
theorem on (i:Nat) (N:Option Tmp) {oi:Oper} {fuel:Nat} {l:Array Bool} {a:Act} {w:World} (hT:Bn (OQ md ops=T))
 (h : ∀K:Act->World->Prop,Shut (∀a' w',S w'->(S w'->Ar P md ops Q S ds fuel (l.setIfInBounds i true) a' w')->K a' w')->if Region.wanted oi (yielded ops a.tmps)=true then Oper.wp P oi a w K Q else K (a.put N undef) w)
 (hi:ops[i]? =some oi:=by rfl) (hN:oi.dst=N:=by rfl) (hc:(cI T.2 l.toList== [i]&&l.toList.set i true==(l.setIfInBounds i true).toList)=true:=by kernel_rfl) (hd:i ∉ ds:=by decide):Ar P md ops Q S ds (fuel+1) l a w :=
 ALo _ hi hN (AHE hT.out hc) hd h
end
section
variable {a b c d e f g h i j k l m P:Prop}
end
end
end Go.Proofs.YtjocbnjpjihpnaaGreatW.Ac
end
section
namespace Go.Proofs.YtjocbnjpjihpnaaGreatW.AD
open Go.ChangeShapes Go.WideShapes
section
end
end Go.Proofs.YtjocbnjpjihpnaaGreatW.AD
end
section
/- Maps from numbers to numbers,as rows of pairs. -/
namespace Go.Proofs.YtjocbnjpjihpnaaGreatW.HU
def qY:List (Int × Int)->Int->Int
 | [],_=>0
 | p::l,n=>if p.1=n then p.2 else qY l n
def cL:List (Int × Int)->Int->Int->List (Int × Int)
 | [],n,v=> [(n,v)]
 | p::l,n,v=>if p.1=n then(n,v)::l else p::cL l n v
end Go.Proofs.YtjocbnjpjihpnaaGreatW.HU
end
section
namespace Go.Proofs.YtjocbnjpjihpnaaGreatW.HU
open Go.RowKit Go.Proofs.YtjocbnjpjihpnaaGreatW.AD Go.Proofs.YtjocbnjpjihpnaaGreatW.AU Go.Proofs.YtjocbnjpjihpnaaGreatW.Ac
set_option linter.unusedVariables false
set_option linter.unusedSectionVars false
section
inductive Ty where
 | int (k:IntKind) | bool | str | row (e:TypeId) (t:Ty) | cons (a b:Ty)
 deriving DecidableEq
@[reducible] def T:Ty->Type
  | .int _=>Int
  | .bool=>Bool
  | .str=>ByteArray
  | .row _ t=>List (T t)
  | .cons a b=>T a × T b
def kd:(t:Ty)->Kd (T t)
 | .int k=>Kd.int k
 | .bool=>Kd.bool
 | .str=>Kd.string
 | .row e t=>Kd.slice e (kd t)
 | .cons a b=>Kd.pair (kd a) (kd b)
def dflt:(t:Ty)->T t
 | .int _=>(0:Int)
 | .bool=>false
 | .str=>(⟨#[]⟩:ByteArray)
 | .row _ _=> []
 | .cons a b=>(dflt a,dflt b)
def Ty.size:Ty->Nat
 | .cons a b=>a.size+b.size
 | _=>1
theorem Fz : ∀t:Ty,(kd t).sz=t.size
 | .int _=>rfl
 | .bool=>rfl
 | .str=>rfl
 | .row _ _=>rfl
 | .cons a b=>by show(kd a).sz+(kd b).sz=a.size+b.size;rw[Fz a,Fz b]
inductive AC where
 | ro (t:Ty) (x:T t)
 | Bx | Mq
 | own (j:Nat)
 | ptr (j o:Nat)
 | Ia (j:Nat)
 | um (j:Nat) (i:Int) (o sz:Nat)
 | rel (t:Ty) (x:T t)
 | Fm
inductive AV where
 | val (cs:List AC)
 | tup (ts:List (List AC))
 | Fm
 | un
inductive Lq where
 | mine | GF | kept
 deriving DecidableEq
inductive AB where
 | cells (q:Lq) (e:TypeId) (cs:List AC)
 | row (q:Lq) (e:TypeId) (t:Ty) (xs:List (T t))
 | cM (e:TypeId) (t:Ty) (xs:List (T t))
 | map (xs:List (Int × Int))
 | used
 | gone
def Ej:AB->Bool
 | .gone=>true
 | _=>false
def lv (hp:List AB) (j:Nat):Prop:= ∃b,hp[j]? =some b/\Ej b=false
def CZ {α β:Type} (R:α->β->Prop):List α->List β->Prop
 | [],[]=>True
 | a::l,b::m=>R a b/\CZ R l m
 | _,_=>False
theorem CZ.imp {α β:Type} {R S:α->β->Prop} (h : ∀a b,R a b->S a b) : ∀ {l:List α} {m:List β},CZ R l m->CZ S l m
 | [],[],_=>trivial
 | _::_,_::_,k=>⟨h _ _ k.1,CZ.imp h k.2⟩
 | [],_::_,k=>k.elim
 | _::_,[],k=>k.elim
theorem CZ.len {α β:Type} {R:α->β->Prop} : ∀ {l:List α} {m:List β},CZ R l m->l.length=m.length
 | [],[],_=>rfl
 | _::_,_::_,k=>congrArg (· +1) (CZ.len k.2)
 | [],_::_,k=>k.elim
 | _::_,[],k=>k.elim
theorem CZ.get {α β:Type} {R:α->β->Prop} : ∀ {l:List α} {m:List β},CZ R l m-> ∀ {i:Nat} {a:α},l[i]? =some a-> ∃b,m[i]? =some b/\R a b
 | [],[],_,i,a,h=>by simp at h
 | x::l,y::m,k,0,a,h=>⟨y,rfl,by simp at h;exact h▸k.1⟩
 | x::l,y::m,k,i+1,a,h=>by
   simp only[AQ9] at h ⊢;exact CZ.get k.2 h
 | [],_::_,k,_,_,_=>k.elim
 | _::_,[],k,_,_,_=>k.elim
theorem CZ.take {α β:Type} {R:α->β->Prop} : ∀ {l:List α} {m:List β} (n:Nat),CZ R l m->CZ R (l.take n) (m.take n)
 | [],[],n,_=>by simp[CZ]
 | _::_,_::_,0,_=>trivial
 | _::_,_::_,n+1,k=>⟨k.1,CZ.take n k.2⟩
 | [],_::_,_,k=>k.elim
 | _::_,[],_,k=>k.elim
theorem CZ.drop {α β:Type} {R:α->β->Prop} : ∀ {l:List α} {m:List β} (n:Nat),CZ R l m->CZ R (l.drop n) (m.drop n)
 | [],[],n,_=>by simp[CZ]
 | _::_,_::_,0,k=>k
 | _::_,_::_,n+1,k=>CZ.drop n k.2
 | [],_::_,_,k=>k.elim
 | _::_,[],_,k=>k.elim
theorem CZ.app {α β:Type} {R:α->β->Prop} : ∀ {l l':List α} {m m':List β},CZ R l m->CZ R l' m'->CZ R (l++l') (m++m')
 | [],_,[],_,_,h=>h
 | _::_,_,_::_,_,k,h=>⟨k.1,CZ.app k.2 h⟩
 | [],_,_::_,_,k,_=>k.elim
 | _::_,_,[],_,k,_=>k.elim
theorem CZ.set {α β:Type} {R:α->β->Prop} : ∀ {l:List α} {m:List β} {a:α} {b:β} (i:Nat),CZ R l m->R a b->CZ R (l.set i a) (m.set i b)
 | [],[],_,_,_,_,_=>by simp[CZ]
 | _::_,_::_,_,_,0,k,h=>⟨h,k.2⟩
 | _::_,_::_,_,_,i+1,k,h=>⟨k.1,CZ.set i k.2 h⟩
 | [],_::_,_,_,_,k,_=>k.elim
 | _::_,[],_,_,_,k,_=>k.elim
theorem CZ.mem {α β:Type} {R:α->β->Prop} : ∀ {l:List α} {m:List β},CZ R l m-> ∀b∈m,∃a∈l,R a b
 | [],[],_,_,h=>by simp at h
 | x::l,y::m,k,b,h=>by
   rcases APv.1 h with rfl | h
   · exact⟨x,APq,k.1⟩
   · obtain⟨a,ha,hr⟩:=CZ.mem k.2 b h
     exact⟨a,APp _ ha,hr⟩
 | [],_::_,k,_,_=>k.elim
 | _::_,[],k,_,_=>k.elim
def X8 (U:Nat->Prop) (w:World) (p:World->Prop):Prop:= ∀W:World,w.heap.size<=W.heap.size->(∀k,k<w.heap.size-> ¬U k->W.heap[k]? =w.heap[k]?)->p W
structure Move (U:Nat->Prop) (w w':World) (U':Nat->Prop):Prop where
 size:w.heap.size<=w'.heap.size
 block : ∀k,k<w.heap.size-> ¬U k->w'.heap[k]? =w.heap[k]?
 less : ∀k,k<w.heap.size->U' k->U k
theorem X8.move {U U':Nat->Prop} {w w':World} {p:World->Prop} (h:X8 U w p) (m:Move U w w' U'):X8 U' w' p:=λW hs hb =>
 h W (AQp m.size hs) (λk hk hU=>(hb k (AQk hk m.size) (λq=>hU (m.less k hk q))).trans (m.block k hk hU))
theorem X8.now {U:Nat->Prop} {w:World} {p:World->Prop} (h:X8 U w p):p w:=h w (AP1 _) (λ_ _ _=>rfl)
theorem X8.imp {U:Nat->Prop} {w:World} {p q:World->Prop} (h:X8 U w p) (k : ∀W,p W->q W):X8 U w q:=λW hs hb=>k W (h W hs hb)
theorem Move.refl {U:Nat->Prop} (w:World):Move U w w U:=⟨AP1 _,λ_ _ _=>rfl,λ_ _ h=>h⟩
def DO:Value->Option Nat
 | .slice (some a) _ _=>some a.block
 | .pointer (some a)=>some a.block
 | .map (some b)=>some b
 | _=>none
def ref:Value->Value
 | .tuple us=>us.getD 0 undef
 | v=>v
def Kp (ν ν':Nat->Value) (j:Nat):Prop:=ν' j=ν j\/ ∃a n c,ν j= .slice a n c/\ν' j= .tuple #[ν j]
theorem Kp.same {ν ν':Nat->Value} {j:Nat} (h:ν' j=ν j):Kp ν ν' j:= .inl h
theorem Kp.ref {ν ν':Nat->Value} {j:Nat} (h:Kp ν ν' j):HU.ref (ν' j)=HU.ref (ν j):=by
 rcases h with h | ⟨a,n,c,h1,h2⟩
 · rw[h]
 · rw[h2,h1];rfl
theorem Kp.ptr {ν ν':Nat->Value} {j:Nat} {a:Option Addr} (h:Kp ν ν' j) (hp:ν j= .pointer a):ν' j= .pointer a:=by
 rcases h with h | ⟨a,n,c,h1,h2⟩
 · rw[h,hp]
 · rw[hp] at h1;cases h1
def O9:List Value->Value
 | [x]=>x
 | vs=> .agg vs.toArray
def Rd (U:Nat->Prop) (w:World):(t:Ty)->T t->List Value->Prop
 | .int k,x,cs=>cs= [.int k x]
 | .bool,x,cs=>cs= [.bool x]
 | .str,x,cs=>cs= [.string x]
 | .row _ t,xs,cs=> ∃A c,cs= [.slice A (List.length xs) c]/\List.length xs<=c/\List.length xs<=9223372036854775807/\(0<List.length xs-> ∃ad:Addr,A=some ad/\ ∀(j:Nat) (p:T t),(xs:List (T t))[j]? =some p-> ∃c',Rd U w t p c'/\ ∀(i:Nat) (u:Value),c'[i]? =some u->X8 U w (λW=>W.cell? (ad.add (j*t.size+i))=some u))
 | .cons a b,x,cs=> ∃c0 c1,cs=c0++c1/\Rd U w a x.1 c0/\Rd U w b x.2 c1
theorem Rd.move {U U':Nat->Prop} {w w':World} (m:Move U w w' U') : ∀ {t:Ty} {x:T t} {cs:List Value},Rd U w t x cs->Rd U' w' t x cs
 | .int _,_,_,h=>h
 | .bool,_,_,h=>h
 | .str,_,_,h=>h
 | .row _ t,xs,cs,⟨A,c,h1,h2,h3,h4⟩=>⟨A,c,h1,h2,h3,λhn=>by
    obtain⟨ad,e,hc⟩:=h4 hn;refine⟨ad,e,λj p hp=> ?_⟩;obtain⟨c',q1,q2⟩:=hc j p hp;exact⟨c',Rd.move m q1,λi u hu=>(q2 i u hu).move m⟩⟩
 | .cons a b,x,cs,⟨c0,c1,h1,h2,h3⟩=>⟨c0,c1,h1,Rd.move m h2,Rd.move m h3⟩
theorem Rd.K {U:Nat->Prop} {w:World} : ∀ {t:Ty} {x:T t} {cs:List Value},Rd U w t x cs->(kd t).K w x cs
 | .int _,_,_,h=>h
 | .bool,_,_,h=>h
 | .str,_,_,h=>h
 | .row _ t,xs,cs,⟨A,c,h1,h2,h3,h4⟩=>⟨A,c,h1,h2,rfl,h3,λhn=>by
    obtain⟨ad,e,hc⟩:=h4 hn;refine⟨ad,e,λj p hp=> ?_⟩;obtain⟨c',q1,q2⟩:=hc j p hp;have hK:=Rd.K q1;exact⟨c',(kd t).EI hK,hK,λi u hu=>by rw[Fz];exact(q2 i u hu).now⟩⟩
 | .cons a b,x,cs,⟨c0,c1,h1,h2,h3⟩=>⟨c0,c1,h1,Rd.K h2,Rd.K h3⟩
theorem JA (g o i:Nat):(⟨g,o,none⟩:Addr).add i=⟨g,o+i,none⟩:=by
 unfold Addr.add;split
 · rename_i h;subst h;rfl
 · rfl
structure St extends World where
 io:List Nat
 fx:List (Nat × Value)
def LO (s:St):Lq->Nat->Prop
 | .mine,g=>s.heap.size<=g
 | _,g=>s.heap.size<=g\/g∈s.io
def bs (s:St):Lq->Nat
 | .mine=>s.heap.size
 | _=>0
structure Since (s:St) (w:World):Prop where
 os:w.os=s.os
 tape:w.tape=s.tape
 output:w.output=s.output
 size:s.heap.size<=w.heap.size
 block : ∀k,k<s.heap.size->k ∉ s.io->w.heap[k]? =s.heap[k]?
theorem Since.step {s:St} {w w':World} (h:Since s w) (k:Below w.heap.size w w'):Since s w' :=
 ⟨k.os.trans h.os,k.tape.trans h.tape,k.output.trans h.output,AQp h.size k.size,λi hi Yw=>(k.block i (AQk hi h.size)).trans (h.block i hi Yw)⟩
theorem LO.ne {s:St} {q:Lq} {g k:Nat} (h:LO s q g) (hk:k<s.heap.size) (Yw:k ∉ s.io):k≠g:=by
 rintro rfl;cases q with
 | mine=>exact absurd hk (Nat.not_lt.2 h)
 | GF=>exact h.elim (λz=>absurd hk (Nat.not_lt.2 z)) Yw
 | kept=>exact h.elim (λz=>absurd hk (Nat.not_lt.2 z)) Yw
theorem LO.any {s:St} {q:Lq} {g:Nat} (h:LO s q g):s.heap.size<=g\/g∈s.io:=by
 cases q with
 | mine=>exact .inl h
 | GF=>exact h
 | kept=>exact h
theorem LO.new {s:St} {q:Lq} {g:Nat} (h:s.heap.size<=g):LO s q g:=by
 cases q with
 | mine=>exact h
 | GF=>exact .inl h
 | kept=>exact .inl h
theorem V2 {s:St} {q:Lq} {g:Nat} (h:LO s q g):bs s q<=g:=by
 cases q with
 | mine=>exact h
 | GF=>exact ASN _
 | kept=>exact ASN _
theorem AHH {s:St} {q:Lq} {g:Nat} (h:s.heap.size<=g):bs s q<=g:=V2 (LO.new h)
section
variable (U0:Nat->Prop) (ν:Nat->Value) (L:Nat->Prop) (s:St) (w:World)
def Un (k:Nat):Prop:=U0 k\/ ∃j,L j/\DO (ν j)=some k
def Cw:AC->Value->Prop
 | .ro t x,v=>t.size=1/\Rd (Un U0 ν L) w t x [v]
 | .Bx,v=>v= .slice none 0 0
 | .Mq,v=>v= .pointer none
 | .own j,v=>L j/\v=ref (ν j)
 | .ptr j o,v=>L j/\ ∃g,ν j= .pointer (some ⟨g,0,none⟩)/\v= .pointer (some ⟨g,o,none⟩)
 | .Ia j,v=>L j/\ ∃g n c,ref (ν j)= .slice (some ⟨g,0,none⟩) n c/\v= .pointer (some ⟨g,0,none⟩)
 | .um j i o sz,v=>L j/\ ∃g n c,ref (ν j)= .slice (some ⟨g,0,none⟩) n c/\(0<=i/\i.toNat<n)/\v= .pointer (some ⟨g,i.toNat*sz+o,none⟩)
 | .rel t x,v=> ∃ad cs,v= .pointer (some ad)/\Rd (Un U0 ν L) w t x cs/\ ∀i u,cs[i]? =some u->X8 (Un U0 ν L) w (λW=>W.cell? (ad.add i)=some u)
 | .Fm,v=>v.oneCell'=true
def Gg:AV->Value->Prop
 | .val cs,v=> ∃vs,v=O9 vs/\CZ (Cw U0 ν L w) cs vs
 | .tup ts,v=> ∃us:List Value,v= .tuple us.toArray/\CZ (λcs u=> ∃vs,u=O9 vs/\CZ (Cw U0 ν L w) cs vs) ts us
 | .Fm,_=>True
 | .un,v=>v=undef
def Tn (j:Nat):AB->Prop
 | .cells q e cs=> ∃g vs,ν j= .pointer (some ⟨g,0,none⟩)/\LO s q g/\w.heap[g]? =some (.cells vs.toArray e (0,0))/\CZ (Cw U0 ν L w) cs vs
 | .row q e t xs=>(∃inner,w.ownsRow (bs s q) e (kd t).sz (ν j) xs.length inner/\Bw (λx c=>Rd (Un U0 ν L) w t x c) (kd t).sz xs inner)/\ ∀k,DO (ν j)=some k->LO s q k
 | .cM e t xs=> ∃v,ν j= .tuple #[v]/\Rd (Un U0 ν L) w (.row e t) xs [v]
 | .map xs=> ∃g es c,ν j= .map (some g)/\s.heap.size<=g/\w.heap[g]? =some (.map es c)/\es.toList.map (λe=>(e.key,e.val))=xs.map λp=>(Value.int .i64 p.1,Value.int .i64 p.2)
 | .used=> ∃v,ν j= .tuple #[v]/\v.oneCell'=true
 | .gone=>False
end
def RD:AB->Bool
 | .cells .kept _ _ | .row .kept _ _ _=>true
 | _=>false
def ABf (s:St) (ν:Nat->Value) (hp:List AB):Prop:= ∀p∈s.fx,ν p.1=p.2/\ ∃b,hp[p.1]? =some b/\RD b=true
structure Inv (U0:Nat->Prop) (ν:Nat->Value) (tm:List AV) (hp:List AB) (w0:St) (a:Act) (w:World):Prop where
 size:a.tmps.size=tm.length
 tm : ∀i x,tm[i]? =some x->Gg U0 ν (lv hp) w x (a.tmps.getD i undef)
 mem : ∀j b,hp[j]? =some b->Ej b=false->Tn U0 ν (lv hp) w0 w j b
 uo : ∀i j,i≠j->lv hp i->lv hp j-> ∀k,DO (ν i)=some k->DO (ν j)≠some k
 fr:Since w0 w
 fx:ABf w0 ν hp
 defers:a.defers= []
section
variable {U0:Nat->Prop} {ν ν':Nat->Value} {L L':Nat->Prop} {w w':World}
theorem Cw.move (m:Move (Un U0 ν L) w w' (Un U0 ν' L')) (hL : ∀j,L j->L' j/\Kp ν ν' j) : ∀ {c:AC} {v:Value},Cw U0 ν L w c v->Cw U0 ν' L' w' c v
 | .ro t x,v,h=>⟨h.1,h.2.move m⟩
 | .Bx,v,h=>h
 | .Mq,v,h=>h
 | .own j,v,h=>⟨(hL j h.1).1,h.2.trans (hL j h.1).2.ref.symm⟩
 | .ptr j o,v,⟨hl,g,h1,h2⟩=>⟨(hL j hl).1,g,(hL j hl).2.ptr h1,h2⟩
 | .Ia j,v,⟨hl,g,n,c,h1,h2⟩=>⟨(hL j hl).1,g,n,c,(hL j hl).2.ref.trans h1,h2⟩
 | .um j i o sz,v,⟨hl,g,n,c,h1,h2⟩=>⟨(hL j hl).1,g,n,c,(hL j hl).2.ref.trans h1,h2⟩
 | .rel t x,v,⟨ad,cs,h1,h2,h3⟩=>⟨ad,cs,h1,h2.move m,λi u hu=>(h3 i u hu).move m⟩
 | .Fm,v,h=>h
theorem Gg.move (m:Move (Un U0 ν L) w w' (Un U0 ν' L')) (hL : ∀j,L j->L' j/\Kp ν ν' j) : ∀ {x:AV} {v:Value},Gg U0 ν L w x v->Gg U0 ν' L' w' x v
 | .val cs,v,⟨vs,h1,h2⟩=>⟨vs,h1,h2.imp λ_ _ h=>Cw.move m hL h⟩
 | .tup ts,v,⟨us,h1,h2⟩=>⟨us,h1,h2.imp λ_ _ ⟨vs,q1,q2⟩=>⟨vs,q1,q2.imp λ_ _ h=>Cw.move m hL h⟩⟩
 | .Fm,_,_=>trivial
 | .un,_,h=>h
theorem Tn.move {s:St} {j:Nat} (m:Move (Un U0 ν L) w w' (Un U0 ν' L')) (hL : ∀j,L j->L' j/\Kp ν ν' j) (hj:ν' j=ν j) (hk : ∀k,DO (ν j)=some k->w'.heap[k]? =w.heap[k]?) : ∀ {b:AB},Tn U0 ν L s w j b->Tn U0 ν' L' s w' j b
 | .cells q e cs,⟨g,vs,h1,h2,h3,h4⟩=>⟨g,vs,hj.trans h1,h2,(hk g (by rw[h1];rfl)).trans h3,h4.imp λ_ _ h=>Cw.move m hL h⟩
 | .row q e t xs,⟨⟨inner,h1,h2⟩,h3⟩=>⟨⟨inner,by
    rw[hj];refine qL h1 (λk q=>hk k ?_);cases hv:ν j with
    | slice a n c=>rw[hv] at q;cases a with
      | none=>simp[Value.ownBlock] at q
      | some a=>simpa[Value.ownBlock,DO] using q
    | _=>rw[hv] at q;simp[Value.ownBlock] at q,h2.HW λ_ _ h=>h.move m⟩,λk hk=>h3 k (hj▸hk)⟩
 | .cM e t xs,⟨v,h1,h2⟩=>⟨v,hj.trans h1,h2.move m⟩
 | .map xs,⟨g,es,c,h1,h2,h3,h4⟩=>⟨g,es,c,hj.trans h1,h2,(hk g (by rw[h1];rfl)).trans h3,h4⟩
 | .used,⟨v,h1,h2⟩=>⟨v,hj.trans h1,h2⟩
 | .gone,h=>h
theorem Tn.MD {U:Nat->Prop} {s:St} {j:Nat} {q:Lq} {e:TypeId} {t:Ty} {xs:List (T t)} (h:Tn U0 ν L s w j (.row q e t xs)) (hU : ∀k,k<w.heap.size->U k->Un U0 ν L k/\DO (ν j)≠some k):Rd U w (.row e t) xs [ν j]/\ ∃a c,ν j= .slice a xs.length c:=by
 obtain⟨⟨inner,h1,h2⟩,_⟩:=h;have mv:Move (Un U0 ν L) w w U:=⟨AP1 _,λ_ _ _=>rfl,λk hk hu=>(hU k hk hu).1⟩;rcases h1.2 with⟨e1,e2⟩ | ⟨g,cap,cur,e1,hb,hg,hc,hm,hs,ht⟩
 · rw[e1]
   exact⟨⟨none,0,by rw[e2],by omega,by omega,λhn=>by omega⟩,none,0,by rw[e2]⟩
 · rw[e1]
   refine⟨⟨_,cap,rfl,hc,by unfold maxLen at hm;omega,λ_=>⟨_,rfl,λq p hp=>⟨_,(h2.2 q p hp).move mv,λi u hu W hs2 qB=> ?_⟩⟩⟩,_,_,rfl⟩;have hgl:g<w.heap.size:=cA hg;have hW:W.heap[g]? =some (.cells cur e (0,0)):=by
    rw[qB g hgl (λhu=>(hU g hgl hu).2 (by rw[e1];rfl))];exact hg
   show W.cell? ((⟨g,0,none⟩:Addr).add (q*t.size+i))=some u;rw[AQF] at hu;split at hu
   · rw[AQI,Fz,<-ht,AQF] at hu
     split at hu
     · rw[JA,Ks hW,ARx]
       simpa using hu
     · cases hu
   · cases hu
end
end
section
inductive TK where
 | AEZ | bool | str | ptr | map (k e:TypeId) | int (k:IntKind) | slice (e:TypeId) | struct (fs:List (Nat × Nat)) | arr (n:Nat) (e:TypeId)
structure TI where
 size:Nat
 bytes:Nat
 zero:List AC
 kind:TK
 ty:Option Ty
def zc:Value->AC->Bool
 | .int k n, .ro (.int k') x=>(k==k')&&n==(x:Int)
 | .bool b, .ro .bool x=>b==(x:Bool)
 | .string s, .ro .str x=>s.data.toList==(x:ByteArray).data.toList
 | .slice none 0 0, .Bx=>true
 | .pointer none, .Mq=>true
 | .map none, .Fm=>true
 | _,_=>false
def zcs:List Value->List AC->Bool
 | [],[]=>true
 | v::vs,c::cs=>zc v c&&zcs vs cs
 | _,_=>false
def Jy (P:Program):TypeDesc->TK->Bool
 | .int k, .int k'=>k==k'
 | .bool, .bool | .string, .str | .pointer _, .ptr=>true
 | .slice e, .slice e'=>e==e'
 | .map k e, .map k' e'=>k==k'&&e==e'
 | .struct fs, .struct gs=>fs.toList.map (λf=>(f.offset,((P.info? f.type).map (·.size)).getD 0))==gs
 | .array n e, .arr n' e'=>n==n'&&e==e'
 | .slice _, .AEZ | .struct _, .AEZ | .array _ _, .AEZ=>false
 | _, .AEZ=>true
 | _,_=>false
def iC:TypeDesc->Bool
 | .struct _ | .array _ _=>true
 | _=>false
def tiB (P:Program) (t:TypeId) (i:TI):Bool :=
 match P.info? t,P.underlying t with
 | some f,some d=>f.size==i.size&&f.bytes==i.bytes&&(match f.zero with
    | some (.agg cs)=>zcs cs.toList i.zero&&i.zero.length !=1
    | some v=>zcs [v] i.zero
    | none=>false)&&Jy P d i.kind&&(iC d==(i.size !=1))&&i.zero.length==i.size
 | _,_=>false
abbrev Kb:=List (TypeId × TI)
def Kb.ok (P:Program) (Θ:Kb):Bool:=Θ.all λx=>tiB P x.1 x.2
def ti:Kb->TypeId->Option TI
 | [],_=>none
 | (u,i)::Θ,t=>if t=u then some i else ti Θ t
theorem AF9 {P:Program} {t:TypeId} {i:TI} : ∀ {Θ:Kb},Θ.ok P=true->ti Θ t=some i->tiB P t i=true
 | [],_,h=>by simp[ti] at h
 | (u,j)::Θ,hk,h=>by
   simp only[Kb.ok,ASJ,APz] at hk;unfold ti at h;split at h
   · rename_i e;injection h with h;subst h;subst e;exact hk.1
   · exact AF9 (Θ:=Θ) hk.2 h
theorem ABg {P:Program} {t:TypeId} {i:TI} (h:tiB P t i=true) : ∃f d,P.info? t=some f/\P.underlying t=some d/\f.size=i.size/\f.bytes=i.bytes/\Jy P d i.kind=true/\iC d=(i.size !=1)/\i.zero.length=i.size/\ ∃z:List Value,f.zero=some (O9 z)/\zcs z i.zero=true:=by
 unfold tiB at h;cases hf:P.info? t with
 | none=>simp[hf] at h
 | some f =>
   cases hd:P.underlying t with
   | none=>simp[hf,hd] at h
   | some d =>
     simp only[hf,hd,APz,beq_iff_eq] at h;obtain⟨⟨⟨⟨⟨h1,h2⟩,h3⟩,h4⟩,h5⟩,h6⟩:=h;refine⟨f,d,rfl,rfl,h1,h2,h4,h5,h6, ?_⟩;cases hz:f.zero with
     | none=>simp[hz] at h3
     | some v =>
       cases v with
       | agg cs =>
         simp only[hz,APz,bne_iff_ne] at h3;have hl : ∀ {vs:List Value} {cs:List AC},zcs vs cs=true->vs.length=cs.length:=by
          intro vs;induction vs with
          | nil=>intro cs k;cases cs<;>simp_all[zcs]
          | cons v vs ih=>intro cs k;cases cs with
            | nil=>simp[zcs] at k
            | cons c cs=>simp only[zcs,APz] at k;simp[ih k.2]
         have:=hl h3.1;refine⟨cs.toList, ?_,h3.1⟩
         match hq:cs.toList with
         | []=>simp[O9];cases cs;simp_all
         | [x]=>rw[hq] at this;simp at this;exact absurd this.symm h3.2
         | x::y::l=>simp[O9];cases cs;simp_all
       | _=>simp only[hz] at h3;exact⟨[_],rfl,h3⟩
theorem AHI {U0:Nat->Prop} {ν:Nat->Value} {L:Nat->Prop} {w:World} {v:Value} {c:AC} (h:zc v c=true):Cw U0 ν L w c v:=by
 unfold zc at h;split at h<;>try (exact absurd h (by decide))
 · rename_i k n k' x
   simp only[APz,beq_iff_eq] at h;obtain⟨h1,h2⟩:=h;exact⟨rfl,by show[Value.int k n]= [Value.int k' x];rw[h1,h2]⟩
 · rename_i b x
   rw[beq_iff_eq] at h;exact⟨rfl,by show[Value.bool b]= [Value.bool x];rw[h]⟩
 · rename_i s x
   rw[beq_iff_eq] at h;refine⟨rfl, ?_⟩;show[Value.string s]= [Value.string x];have:s=x:=by
    cases s with
    | mk a=>cases hx:x with
      | mk b=>rw[hx] at h;simp only at h;congr 1;exact ATM h
   rw[this]
 · rfl
 · rfl
 · rfl
theorem Lj {U0:Nat->Prop} {ν:Nat->Value} {L:Nat->Prop} {w:World} : ∀ {vs:List Value} {cs:List AC},zcs vs cs=true->CZ (Cw U0 ν L w) cs vs
 | [],[],_=>trivial
 | v::vs,c::cs,h=>by
   simp only[zcs,APz] at h;exact⟨AHI h.1,Lj h.2⟩
 | [],_::_,h=>by simp[zcs] at h
 | _::_,[],h=>by simp[zcs] at h
theorem Cw.one {U0:Nat->Prop} {ν:Nat->Value} {L:Nat->Prop} {w:World} (hB : ∀j,L j->(ref (ν j)).oneCell'=true) : ∀ {c:AC} {v:Value},Cw U0 ν L w c v->v.oneCell'=true
 | .ro t x,v,h=>(kd t).HK h.2.K v APq
 | .Bx,v,h=>by rw[show v=_ from h];rfl
 | .Mq,v,h=>by rw[show v=_ from h];rfl
 | .own j,v,h=>by rw[h.2];exact hB j h.1
 | .ptr j o,v,⟨_,g,_,h2⟩=>by rw[h2];rfl
 | .Ia j,v,⟨_,g,n,c,_,h2⟩=>by rw[h2];rfl
 | .um j i o sz,v,⟨_,g,n,c,_,_,h2⟩=>by rw[h2];rfl
 | .rel t x,v,⟨ad,cs,h1,_⟩=>by rw[h1];rfl
 | .Fm,v,h=>h
def lit:Value->AV
 | .int k n=> .val [.ro (.int k) n]
 | .bool b=> .val [.ro .bool b]
 | .string s=> .val [.ro .str s]
 | .slice none 0 0=> .val [.Bx]
 | .pointer none=> .val [.Mq]
 | _=> .Fm
def AW (tm:List AV):Operand->AV
 | .tmp t=>tm.getD t .Fm
 | .const v=>lit v
 | _=> .Fm
def Mr (tm:List AV) (d:Option Tmp) (x:AV):List AV:=match d with
 | some t=>tm.set t x
 | none=>tm
theorem AEa {U0:Nat->Prop} {ν:Nat->Value} {L:Nat->Prop} {w:World} (v:Value):Gg U0 ν L w (lit v) v:=by
 unfold lit;split
 · exact⟨[_],rfl,⟨rfl,rfl⟩,trivial⟩
 · exact⟨[_],rfl,⟨rfl,rfl⟩,trivial⟩
 · exact⟨[_],rfl,⟨rfl,rfl⟩,trivial⟩
 · exact⟨[_],rfl,rfl,trivial⟩
 · exact⟨[_],rfl,rfl,trivial⟩
 · trivial
section
variable {U0:Nat->Prop} {ν:Nat->Value} {tm:List AV} {hp:List AB} {w0:St} {w:World} {a:Act}
theorem Inv.AW (I:Inv U0 ν tm hp w0 a w) (x:Operand):Gg U0 ν (lv hp) w (AW tm x) (a.eval x):=by
 cases x with
 | tmp t =>
   show Gg U0 ν (lv hp) w (tm.getD t .Fm) (a.tmps.getD t undef);rw[APt];cases h:tm[t]? with
   | none=>trivial
   | some y=>exact I.tm t y h
 | const v=>exact AEa v
 | global g=>trivial
 | func f=>trivial
theorem Inv.l5 (I:Inv U0 ν tm hp w0 a w) : ∀j,lv hp j->(ref (ν j)).oneCell'=true:=by
 rintro j ⟨b,hb,hg⟩;have hr:=I.mem j b hb hg;cases b with
 | cells q e cs=>obtain⟨g,vs,h1,_⟩:=hr;rw[h1];rfl
 | row q e t xs =>
   obtain⟨⟨inner,⟨_,h | ⟨g,cap,cur,h,_⟩⟩,_⟩,_⟩:=hr
   · rw[h.1];rfl
   · rw[h];rfl
 | cM e t xs =>
   obtain⟨v,h1,A,c,h2,_⟩:=hr;rw[h1,(ARE h2).1];rfl
 | map xs=>obtain⟨g,es,c,h1,_⟩:=hr;rw[h1];rfl
 | used=>obtain⟨v,h1,h2⟩:=hr;rw[h1];exact h2
 | gone=>exact hr.elim
theorem Inv.put (I:Inv U0 ν tm hp w0 a w) {ν':Nat->Value} {CH:List AB} {w':World} (d:Option Tmp) (x:AV) (v:Value)
 (m:Move (Un U0 ν (lv hp)) w w' (Un U0 ν' (lv CH))) (hL : ∀j,lv hp j->lv CH j/\Kp ν ν' j) (hx:Gg U0 ν' (lv CH) w' x v)
 (hB : ∀j b,CH[j]? =some b->Ej b=false->Tn U0 ν' (lv CH) w0 w' j b) (hD : ∀i j,i≠j->lv CH i->lv CH j-> ∀k,DO (ν' i)=some k->DO (ν' j)≠some k)
 (hF:Since w0 w') (hX:ABf w0 ν' CH):Inv U0 ν' (Mr tm d x) CH w0 (a.put d v) w':=by
 cases d with
 | none=>exact⟨I.size,λi y hy=>Gg.move m hL (I.tm i y hy),hB,hD,hF,hX,I.defers⟩
 | some t =>
   refine⟨by simp[Act.put,Mr,I.size],λi y hy=> ?_,hB,hD,hF,hX,I.defers⟩;simp only[Mr,AR0] at hy;by_cases hti:t=i
   · subst hti
     by_cases hl:t<tm.length
     · rw[if_pos rfl,if_pos hl] at hy
       injection hy with hy;subst hy;have:(a.put (some t) v).tmps.getD t undef=v:=by
        have hs:t<a.tmps.size:=(by rw[I.size];exact hl);simp[Act.put,AQZ,hs]
       rw[this];exact hx
     · rw[if_pos rfl,if_neg hl] at hy
       cases hy
   · rw[if_neg hti] at hy
     have:(a.put (some t) v).tmps.getD i undef=a.tmps.getD i undef:=by
      simp[Act.put,AQZ,hti]
     rw[this];exact Gg.move m hL (I.tm i y hy)
theorem TA {L:Nat->Prop} {ν:Nat->Value} : ∀j,L j->L j/\Kp ν ν j:=λ_ h=>⟨h, .inl rfl⟩
theorem Inv.RE (I:Inv U0 ν tm hp w0 a w) (d:Option Tmp) {x:AV} {v:Value} (hx:Gg U0 ν (lv hp) w x v):Inv U0 ν (Mr tm d x) hp w0 (a.put d v) w :=
 I.put d x v (Move.refl w) TA hx I.mem I.uo I.fr I.fx
theorem Inv.go (I:Inv U0 ν tm hp w0 a w) {w':World} (d:Option Tmp) (x:AV) (v:Value) (hs:w.heap.size<=w'.heap.size) (hb : ∀k,k<w.heap.size->w'.heap[k]? =w.heap[k]?) (hlt : ∀j,lv hp j-> ∀k,DO (ν j)=some k->k<w.heap.size)
 (hx:Gg U0 ν (lv hp) w' x v) (hF:Since w0 w'):Inv U0 ν (Mr tm d x) hp w0 (a.put d v) w' :=
 have m:Move (Un U0 ν (lv hp)) w w' (Un U0 ν (lv hp)):=⟨hs,λk hk _=>hb k hk,λ_ _ h=>h⟩
 I.put d x v m TA hx (λj b h1 h2=>(I.mem j b h1 h2).move m TA rfl λk hk=>hb k (hlt j ⟨b,h1,h2⟩ k hk)) I.uo hF I.fx
theorem vM {w:World} {g:Nat} {o:Obj} (h:w.heap[g]? =some o):g<w.heap.size:=(AQo.1 h).1
theorem Inv.lt (I:Inv U0 ν tm hp w0 a w) {j g:Nat} (hj:lv hp j) (hb:DO (ν j)=some g):g<w.heap.size/\(w0.heap.size<=g\/g∈w0.io):=by
 obtain⟨b,h1,hg⟩:=hj;have h2:=I.mem j b h1 hg;cases b with
 | cells q e cs =>
   obtain⟨g',vs,q1,q2,q3,_⟩:=h2;rw[q1] at hb;injection hb with hb;subst hb;exact⟨cA q3,q2.any⟩
 | row q e t xs =>
   obtain⟨⟨inner,h,_⟩,h3⟩:=h2;have h3:=h3 g hb;rcases h.2 with⟨q,_⟩ | ⟨g',cap,cur,q,q2,q3,_⟩
   · rw[q] at hb;cases hb
   · rw[q] at hb
     injection hb with hb;subst hb;exact⟨cA q3,h3.any⟩
 | cM e t xs=>obtain⟨v,q,_⟩:=h2;rw[q] at hb;cases hb
 | map xs =>
   obtain⟨g',es,c,q1,q2,q3,_⟩:=h2;rw[q1] at hb;injection hb with hb;subst hb;exact⟨vM q3, .inl q2⟩
 | used=>obtain⟨v,q,_⟩:=h2;rw[q] at hb;cases hb
 | gone=>exact h2.elim
theorem Inv.TB (I:Inv U0 ν tm hp w0 a w) {j g:Nat} {e:TypeId} {t:Ty} {xs:List (T t)} (hj:hp[j]? =some (.row .mine e t xs)) (hb:DO (ν j)=some g):w0.heap.size<=g:=(I.mem j _ hj rfl).2 g hb
theorem ABf.ABh {s:St} {ν ν':Nat->Value} {hp CH:List AB} (h:ABf s ν hp) (hs : ∀j b,hp[j]? =some b->RD b=true->ν' j=ν j/\ ∃b',CH[j]? =some b'/\RD b'=true):ABf s ν' CH:=λp hp=>by
 obtain⟨h1,b,h2,h3⟩:=h p hp;obtain⟨q1,q2⟩:=hs p.1 b h2 h3;exact⟨q1.trans h1,q2⟩
def upd (ν:Nat->Value) (t:Nat) (v:Value) (j:Nat):Value:=if j=t then v else ν j
theorem Bb {ν:Nat->Value} {t:Nat} {v:Value} :upd ν t v t=v:=if_pos rfl
theorem Gh {ν:Nat->Value} {t j:Nat} {v:Value} (h:j≠t):upd ν t v j=ν j:=if_neg h
theorem ABi {hp:List AB} {j:Nat} {b:AB} (hj:lv hp j) (hb:Ej b=false):lv (hp.set j b)=lv hp:=by
 obtain⟨b',h1,h2⟩:=hj;have hlt:=(APw.1 h1).1
 funext i
 apply propext;unfold lv;by_cases h:j=i
 · subst h
   exact⟨λ_=>⟨b',h1,h2⟩,λ_=>⟨b,by simp[hlt],hb⟩⟩
 · rw[AQE h]
theorem Inv.AEb (I:Inv U0 ν tm hp w0 a w) (hU : ∀k,U0 k->k<w0.heap.size) {j:Nat} {e:TypeId} {t:Ty} {xs:List (T t)} (hb:hp[j]? =some (.row .mine e t xs)):Inv U0 (upd ν j (.tuple #[ν j])) tm (hp.set j (.cM e t xs)) w0 a w:=by
 have hj:lv hp j:=⟨_,hb,rfl⟩;have el:=ABi hj (b:= .cM e t xs) rfl;have hlt:=(APw.1 hb).1;have hR:=I.mem j _ hb rfl;obtain⟨_,a',c',iD⟩:=hR.MD (U:=λ_=>False) (λ_ _ h=>h.elim);have hK : ∀i,lv hp i->lv (hp.set j (.cM e t xs)) i/\Kp ν (upd ν j (.tuple #[ν j])) i:=λi hi=>⟨el▸hi,by
  by_cases h:i=j
  · subst h;exact .inr ⟨a',_,c',iD,Bb⟩
  · exact .inl (Gh h)⟩
 have hbk : ∀i k,DO (upd ν j (.tuple #[ν j]) i)=some k->i≠j/\DO (ν i)=some k:=λi k h=>by
  by_cases q:i=j
  · subst q;rw[Bb] at h;cases h
  · rw[Gh q] at h;exact⟨q,h⟩
 have hun : ∀k,Un U0 (upd ν j (.tuple #[ν j])) (lv (hp.set j (.cM e t xs))) k->Un U0 ν (lv hp) k:=λk h=>by
  rcases h with h | ⟨i,hi,h⟩
  · exact .inl h
  · exact .inr ⟨i,el▸hi,(hbk i k h).2⟩
 have m:Move (Un U0 ν (lv hp)) w w (Un U0 (upd ν j (.tuple #[ν j])) (lv (hp.set j (.cM e t xs)))):=⟨AP1 _,λ_ _ _=>rfl,λk _ h=>hun k h⟩;have:=I.put (a:=a) (d:=none) (x:= .Fm) (v:=undef) m hK trivial (λi b h1 h2=> ?_) (λi i' hne hi hi' k h1 h2=> ?_) I.fr (I.fx.ABh λi b h1 h2=> ?_)
 · exact this
 · by_cases h:j=i
   · subst h
     rw[AQe hlt] at h1;injection h1 with h1;subst h1;refine⟨ν j,Bb,(hR.MD λk hk hu=>⟨hun k hu,λcN=> ?_⟩).1⟩;rcases hu with hu | ⟨i,hi,hu⟩
     · have h1:=hU k hu
       have:=I.TB hb cN;omega
     · obtain⟨q1,q2⟩:=hbk i k hu
       exact I.uo i j q1 (el▸hi) hj k q2 cN
   · rw[AQE h] at h1
     exact(I.mem i b h1 h2).move m hK (Gh (λq=>h q.symm)) (λ_ _=>rfl)
 · rw[el] at hi hi'
   exact I.uo i i' hne hi hi' k (hbk i k h1).2 (hbk i' k h2).2
 · have hne:i≠j:=by
    rintro rfl;rw[hb] at h1;injection h1 with h1;subst h1;cases h2
   exact⟨Gh hne,b,by rw[AQE (ASz hne)];exact h1,h2⟩
end
end
section
@[reducible] def TT:List Ty->Type
  | []=>Unit
  | t::ts=>T t × TT ts
structure AS where
 ps:List Ty
 rs:List Ty
 f:Nat->TT ps->Option (TT rs)
inductive FK where
 | ty (t:Ty)
 | row (keep:Bool) (e:TypeId) (t:Ty)
@[reducible] def FT:List FK->Type
  | []=>Unit
  | .ty t::l=>T t × FT l
  | .row _ _ t::l=>List (T t) × FT l
inductive PK where
 | ty (t:Ty)
 | st (e:TypeId) (fs:List FK)
 | LP (e:TypeId) (t:Ty)
@[reducible] def PT:List PK->Type
  | []=>Unit
  | .ty t::l=>T t × PT l
  | .st _ fs::l=>FT fs × PT l
  | .LP _ t::l=>List (T t) × PT l
@[reducible] def ET:List PK->Type
  | []=>Unit
  | .ty _::l=>ET l
  | .st _ fs::l=>FT fs × ET l
  | .LP _ t::l=>List (T t) × ET l
structure D0 where
 ps:List PK
 rs:List Ty
 f:Nat->PT ps->Option (TT rs × ET ps)
structure qZ where
 ps:List Ty
 e:TypeId
 t:Ty
 f:Nat->TT ps->Option (List (T t))
inductive NF where
 | ty (t:Ty) | nil
@[reducible] def NT:List NF->Type
  | []=>Unit
  | .ty t::l=>T t × NT l
  | .nil::l=>NT l
def ABj:(fs:List NF)->NT fs
 | []=>()
 | .ty t::l=>(dflt t,ABj l)
 | .nil::l=>ABj l
structure cO where
 ps:List Ty
 e:TypeId
 fs:List NF
 f:Nat->TT ps->Option (Bool × NT fs)
inductive FE where
 | pu (s:AS)
 | np (s:cO)
 | io (s:D0) (nm:List (Nat × Nat))
 | nw (s:qZ)
inductive Tree (R:Type):Type 1 where
 | non
 | done (r:R)
 | Lb (c:Prop) [d:Decidable c] (x y:Tree R)
 | iE {A:Type} (x:Option A) (f:A->Tree R)
def Tree.run {R:Type} :Tree R->Option R
 | .non=>none
 | .done r=>some r
 | @Tree.Lb _ c d x y=> @ite _ c d x.run y.run
 | .iE x f=>x.bind λa=>(f a).run
def ofO {R:Type} :Option R->Tree R
 | some r=> .done r
 | none=> .non
theorem yU {R:Type} (x:Option R):(ofO x).run=x:=by cases x<;>rfl
theorem Tree.IC {R:Type} {r:R} (h:(Tree.non:Tree R).run=some r):False:=by cases h
theorem Tree.Mv {R:Type} {r:R} {c:Prop} [d:Decidable c] {x y:Tree R} (h:(Tree.Lb c x y).run=some r):(c/\x.run=some r)\/(¬c/\y.run=some r):=by
 have h:(if c then x.run else y.run)=some r:=h;split at h
 · rename_i hc;exact .inl ⟨hc,h⟩
 · rename_i hc;exact .inr ⟨hc,h⟩
theorem Tree.need {R:Type} {r:R} {c:Prop} [d:Decidable c] {x:Tree R} (h:(Tree.Lb c x .non).run=some r):c/\x.run=some r:=(Tree.Mv h).resolve_right λq=>Tree.IC q.2
theorem Tree.TC {R A:Type} {r:R} {x:Option A} {f:A->Tree R} (h:(Tree.iE x f).run=some r) : ∃a,x=some a/\(f a).run=some r:=ARN.1 h
structure HC where
 nw:Option AB
 ch:List (Nat × AB)
@[reducible] def H0:HC:=⟨none,[]⟩
def ownRow (hp:List AB) (j:Nat) (e:TypeId) (t:Ty):Option (List (T t)):=match hp[j]? with
 | some (.row .mine e' t' xs)=>if h:e'=e/\t'=t then h.2▸some xs else none
 | some (.cM e' t' xs)=>if h:e'=e/\t'=t then h.2▸some xs else none
 | _=>none
def E6 (hp:List AB):(t:Ty)->List AC->Option (T t × List AC)
 | .cons a b,cs=>match E6 hp a cs with
   | some (x,cs')=>match E6 hp b cs' with
     | some (y,ALt)=>some ((x,y),ALt)
     | none=>none
   | none=>none
 | .row _ _, .Bx::cs=>some ([],cs)
 | .row e t, .own j::cs=>match ownRow hp j e t with
   | some xs=>some (xs,cs)
   | none=>none
 | t, .ro t' x::cs=>if h:t'=t then h▸some (x,cs) else none
 | _,_=>none
def Lc (hp:List AB):List AC->List (Nat × AB)
 | []=> []
 | .own j::cs=>match hp[j]? with
   | some (.row .mine e t xs)=>(j, .cM e t xs)::Lc hp cs
   | _=>Lc hp cs
 | _::cs=>Lc hp cs
def Jz:List AC->Bool
 | []=>true
 | .own _::_=>false
 | _::cs=>Jz cs
def Jw:List (Nat × AB)->Nat->Bool
 | [],_=>false
 | (i,_)::l,j=>i==j || Jw l j
def X9:(t:Ty)->T t->List AC
 | .cons a b,x=>X9 a x.1++X9 b x.2
 | .int k,x=> [.ro (.int k) x]
 | .bool,x=> [.ro .bool x]
 | .str,x=> [.ro .str x]
 | .row e t,x=> [.ro (.row e t) x]
def part:(t:Ty)->T t->(off sz:Nat)->Option AC
 | .cons a b,x,off,sz =>
   if off=0/\sz=(Ty.cons a b).size then some (.rel (.cons a b) x)
   else if off<a.size then part a x.1 off sz else part b x.2 (off-a.size) sz
 | t,x,off,sz=>if off=0/\sz=1 then some (.rel t x) else none
def ncs:(fs:List NF)->NT fs->List AC
 | [],_=> []
 | .ty t::l,x=>X9 t x.1++ncs l x.2
 | .nil::l,x=> .Bx::ncs l x
def rdN (hp:List AB):(fs:List NF)->List AC->Option (NT fs)
 | [],[]=>some ()
 | .ty t::l,cs=>match E6 hp t cs with
   | some (x,cs')=>match rdN hp l cs' with
     | some y=>some (x,y)
     | none=>none
   | none=>none
 | .nil::l, .Bx::cs=>rdN hp l cs
 | _,_=>none
def args (hp:List AB) (tm:List AV):(ps:List Ty)->List Operand->Option (TT ps)
 | [],[]=>some ()
 | t::ts,o::os=>match AW tm o with
   | .val cs=>match E6 hp t cs with
     | some (x,[])=>match args hp tm ts os with
       | some xs=>some (x,xs)
       | none=>none
     | _=>none
   | _=>none
 | _,_=>none
def cellsOf:AV->List AC
 | .val cs=>cs
 | _=> []
def IX (hp:List AB) (tm:List AV):List Operand->List (Nat × AB)
 | []=> []
 | o::os=>Lc hp (cellsOf (AW tm o))++IX hp tm os
def ABk:(rs:List Ty)->TT rs->List (List AC)
 | [],_=> []
 | t::ts,(x,y)=>X9 t x::ABk ts y
def vN (rs:List Ty) (x:TT rs):AV:=match ABk rs x with
 | [cs]=> .val cs
 | ts=> .tup ts
def V3:Ty->Bool
 | .row _ _=>false
 | .cons a b=>V3 a&&V3 b
 | _=>true
def iv (k:IntKind) (n:Int):AV:= .val [.ro (.int k) n]
def wr:IntKind->Int->Int
 | .i64,n=>wrap64 n
 | k,n=>k.wrap n
theorem wr_eq (k:IntKind) (n:Int):wr k n=k.wrap n:=by
 cases k<;>first | rfl | exact(qR n).symm
def bv (b:Bool):AV:= .val [.ro .bool b]
def Kt:(t:Ty)->List AC->Option (List AC)
 | .cons a b,cs=>match Kt a cs with
   | some cs'=>Kt b cs'
   | none=>none
 | .row _ _, .Bx::cs=>some cs
 | .int k, .ro (.int k') x::cs=>if k'=k/\(x:Int)=0 then some cs else none
 | .bool, .ro .bool x::cs=>if(x:Bool)=false then some cs else none
 | .str, .ro .str x::cs=>if(x:ByteArray).data.toList.length=0 then some cs else none
 | _,_=>none
def l6 (t:Ty) (cs:List AC):Bool:=match Kt t cs with
 | some []=>true
 | _=>false
theorem cP {t:Ty} {cs:List AC} (h:l6 t cs=true):Kt t cs=some []:=by
 unfold l6 at h;split at h
 · assumption
 · cases h
section
universe u
variable {R:Type u} {A:Type}
def fC (c:AC) (k:AC->R):R:=match c with
 | .ro (.int q) x=>k (.ro (.int q) x)
 | .ro .bool x=>k (.ro .bool x)
 | .ro .str x=>k (.ro .str x)
 | .ro (.row e t) x=>k (.ro (.row e t) x)
 | .ro (.cons a b) x=>k (.ro (.cons a b) x)
 | .Bx=>k .Bx
 | .Mq=>k .Mq
 | .own j=>k (.own j)
 | .ptr j o=>k (.ptr j o)
 | .Ia j=>k (.Ia j)
 | .um j i o z=>k (.um j i o z)
 | .rel t x=>k (.rel t x)
 | .Fm=>k .Fm
theorem AIu (c:AC) (k:AC->R):fC c k=k c:=by
 cases c
 case ro t x=>cases t<;>rfl
 all_goals rfl
def fCs:List AC->(List AC->R)->R
 | [],k=>k []
 | c::cs,k=>fC c λc'=>fCs cs λcs'=>k (c'::cs')
theorem l7 : ∀(cs:List AC) (k:List AC->R),fCs cs k=k cs
 | [],_=>rfl
 | c::cs,k=>by simp only[fCs,AIu,l7 cs]
def fTs:List (List AC)->(List (List AC)->R)->R
 | [],k=>k []
 | c::cs,k=>fCs c λc'=>fTs cs λcs'=>k (c'::cs')
theorem ABl : ∀(cs:List (List AC)) (k:List (List AC)->R),fTs cs k=k cs
 | [],_=>rfl
 | c::cs,k=>by simp only[fTs,l7,ABl cs]
def fV (x:AV) (k:AV->R):R:=match x with
 | .val cs=>fCs cs λcs'=>k (.val cs')
 | .tup ts=>fTs ts λts'=>k (.tup ts')
 | .Fm=>k .Fm
 | .un=>k .un
theorem AGA (x:AV) (k:AV->R):fV x k=k x:=by cases x<;>simp only[fV,l7,ABl]
def fB (b:AB) (k:AB->R):R:=match b with
 | .cells q e cs=>fCs cs λcs'=>k (.cells q e cs')
 | .row q e t xs=>k (.row q e t xs)
 | .cM e t xs=>k (.cM e t xs)
 | .map xs=>k (.map xs)
 | .used=>k .used
 | .gone=>k .gone
theorem ABm (b:AB) (k:AB->R):fB b k=k b:=by cases b<;>simp only[fB,l7]
def AAN:List A->Nat->A->(List A->R)->R
 | [],_,_,k=>k []
 | _::l,0,x,k=>k (x::l)
 | a::l,n+1,x,k=>AAN l n x λl'=>k (a::l')
theorem av : ∀(l:List A) (n:Nat) (x:A) (k:List A->R),AAN l n x k=k (l.set n x)
 | [],_,_,_=>rfl
 | _::_,0,_,_=>rfl
 | a::l,n+1,x,k=>by simp only[AAN,av l n x,ARf]
def V4:List A->A->(List A->R)->R
 | [],x,k=>k [x]
 | a::l,x,k=>V4 l x λl'=>k (a::l')
theorem qc : ∀(l:List A) (x:A) (k:List A->R),V4 l x k=k (l++ [x])
 | [],_,_=>rfl
 | a::l,x,k=>by simp only[V4,qc l x,ASA]
def fNs:List Nat->(List Nat->R)->R
 | [],k=>k []
 | a::l,k=>fNs l λl'=>k (a::l')
theorem ABn : ∀(l:List Nat) (k:List Nat->R),fNs l k=k l
 | [],_=>rfl
 | a::l,k=>by simp only[fNs,ABn l]
def fL:List AV->(List AV->R)->R
 | [],k=>k []
 | a::l,k=>fV a λa'=>fL l λl'=>k (a'::l')
theorem jV : ∀(l:List AV) (k:List AV->R),fL l k=k l
 | [],_=>rfl
 | a::l,k=>by simp only[fL,AGA,jV l]
def fH:List AB->(List AB->R)->R
 | [],k=>k []
 | a::l,k=>fB a λa'=>fH l λl'=>k (a'::l')
theorem jW : ∀(l:List AB) (k:List AB->R),fH l k=k l
 | [],_=>rfl
 | a::l,k=>by simp only[fH,ABm,jW l]
def Tp (tm:List AV) (d:Option Tmp) (x:AV) (k:List AV->R):R:=match d with
 | some t=>fV x λx'=>AAN tm t x' k
 | none=>k tm
theorem yV (tm:List AV) (d:Option Tmp) (x:AV) (k:List AV->R):Tp tm d x k=k (Mr tm d x):=by cases d<;>simp only[Tp,AGA,av,Mr]
end
def De:List (Nat × AB)->List AB->List AB
 | [],hp=>hp
 | (j,b)::l,hp=>(De l hp).set j b
def PD (d:Option Tmp) (hp:List AB) (δ:HC):List AB:=match δ.nw,d with
 | some b,some t=>(De δ.ch hp).set t b
 | _,_=>De δ.ch hp
universe u in
def AAO {R:Type u} :List (Nat × AB)->List AB->(List AB->R)->R
 | [],hp,k=>k hp
 | (j,b)::l,hp,k=>AAO l hp λCH=>fB b λb'=>AAN CH j b' k
universe u in
theorem l8 {R:Type u} : ∀(l:List (Nat × AB)) (hp:List AB) (k:List AB->R),AAO l hp k=k (De l hp)
 | [],_,_=>rfl
 | (j,b)::l,hp,k=>by simp only[AAO,l8 l hp,ABm,av,De]
universe u in
def Yx {R:Type u} (d:Option Tmp) (hp:List AB) (δ:HC) (k:List AB->R):R:=match δ.nw,d with
 | some b,some t=>AAO δ.ch hp λCH=>fB b λb'=>AAN CH t b' k
 | _,_=>AAO δ.ch hp k
universe u in
theorem qe {R:Type u} (d:Option Tmp) (hp:List AB) (δ:HC) (k:List AB->R):Yx d hp δ k=k (PD d hp δ):=by
 unfold Yx PD;split<;>simp only[l8,ABm,av]
def l9 (hp:List AB) (j:Nat):Bool:=match hp[j]? with
 | some _=>true
 | none=>false
def hok (d:Option Tmp) (hp:List AB) (δ:HC):Bool:=(match δ.nw,d with
 | some b,some t=>(match hp[t]? with
   | some .gone=>true
   | _=>false)&& !Ej b
 | some _,none=>false
 | none,_=>true)&&δ.ch.all λp=>l9 hp p.1&& !Ej p.2
section
variable {R:Type}
def vO (op:BinOp) (k:IntKind) (x y:Int) (K:AV->Tree R):Tree R :=
 match op with
 | .add=>K (iv k (wr k (x+y)))
 | .sub=>K (iv k (wr k (x-y)))
 | .mul=>K (iv k (wr k (x*y)))
 | .quo=>Tree.Lb (y=0) .non (K (iv k (wr k (Int.tdiv x y))))
 | .rem=>Tree.Lb (y=0) .non (K (iv k (Int.tmod x y)))
 | .and=>K (iv k (Go.bits .and k x y))
 | .or=>K (iv k (Go.bits .or k x y))
 | .xor=>K (iv k (Go.bits .xor k x y))
 | .andNot=>K (iv k (Go.bits .andNot k x y))
 | .eql=>K (bv (x==y))
 | .neq=>K (bv (x !=y))
 | .lss=>K (bv (decide (x<y)))
 | .leq=>K (bv (decide (x<=y)))
 | .gtr=>K (bv (decide (y<x)))
 | .geq=>K (bv (decide (y<=x)))
 | _=> .non
def cQ (op:BinOp) (k:IntKind) (x y:Int) (K:AV->Tree R):Tree R :=
 match op with
 | .shl=>Tree.Lb (0<=y) (K (iv k (shl k x y))) .non
 | .shr=>Tree.Lb (0<=y) (K (iv k (shr k x y))) .non
 | _=> .non
def AEc:BinOp->Bool
 | .shl | .shr=>true
 | _=>false
def mA (op:BinOp) (x y:Bool) (K:AV->Tree R):Tree R :=
 match op with
 | .eql=>K (bv (x==y))
 | .neq=>K (bv (!(x==y)))
 | _=> .non
def vP (op:BinOp) (x y:ByteArray) (K:AV->Tree R):Tree R :=
 match op with
 | .add=>Tree.Lb (x.size+y.size<=9223372036854775807) (K (.val [.ro .str (x++y)])) .non
 | .eql=>K (bv (x.toList==y.toList))
 | .neq=>K (bv (!(x.toList==y.toList)))
 | _=> .non
def cR (op:BinOp) (b:Bool) (K:AV->Tree R):Tree R :=
 match op with
 | .eql=>K (bv b)
 | .neq=>K (bv (!b))
 | _=> .non
def Mw (place:Nat->Option (Nat × Nat)) (cs:List AC):List (Nat × AV)->Option (List AC)
 | []=>some cs
 | (i, .val xs)::rest=>match place i with
   | some (off,sz)=>if xs.length=sz/\off+sz<=cs.length then Mw place (cs.take off++xs++cs.drop (off+sz)) rest else none
   | none=>none
 | _=>none
def rows (hp:List AB) (t:Ty):Nat->List AC->Option (List (T t))
 | 0,[]=>some []
 | n+1,cs=>match E6 hp t cs with
   | some (x,cs')=>match rows hp t n cs' with
     | some xs=>some (x::xs)
     | none=>none
   | none=>none
 | _,_=>none
def Mx (hp:List AB) (e:TypeId) (t:Ty):AC->Option (List (Nat × AB) × Lq × List (T t))
 | .Bx=>some ([], .mine,[])
 | .own j=>match hp[j]? with
   | some (.row .mine e' t' xs)=>if h:e'=e/\t'=t then h.2▸some ([(j, .used)], .mine,xs) else none
   | some (.row .GF e' t' xs)=>if h:e'=e/\t'=t then h.2▸some ([(j, .used)], .GF,xs) else none
   | _=>none
 | _=>none
def V6 (hp:List AB) (e:TypeId) (t:Ty) (c:AC):Option (List (T t)):=match E6 hp (.row e t) [c] with
 | some (xs,[])=>some xs
 | _=>none
def jX (hp:List AB) (e:TypeId) (t:Ty) (c:AC):Option (List (T t)):=match c with
 | .own j=>match hp[j]? with
   | some (.row _ e' t' xs)=>if h:e'=e/\t'=t then h.2▸some xs else none
   | _=>V6 hp e t c
 | _=>V6 hp e t c
def J0 (hp:List AB):(fs:List FK)->List AC->Option (FT fs)
 | [],[]=>some ()
 | .ty t::l,cs=>if Jz (cs.take t.size)=true then(match E6 hp t cs with
   | some (x,cs')=>match J0 hp l cs' with
     | some y=>some (x,y)
     | none=>none
   | none=>none) else none
 | .row true e t::l, .own j::cs=>match hp[j]? with
   | some (.row _ e' t' xs)=>if h:e'=e/\t'=t then(match J0 hp l cs with
     | some y=>h.2▸some (xs,y)
     | none=>none) else none
   | _=>none
 | .row false e t::l, .Bx::cs=>match J0 hp l cs with
   | some y=>some ([],y)
   | none=>none
 | .row false e t::l, .own j::cs=>match hp[j]? with
   | some (.row .mine e' t' xs)=>if h:e'=e/\t'=t then(match J0 hp l cs with
     | some y=>h.2▸some (xs,y)
     | none=>none) else none
   | some (.row .GF e' t' xs)=>if h:e'=e/\t'=t then(match J0 hp l cs with
     | some y=>h.2▸some (xs,y)
     | none=>none) else none
   | _=>none
 | _,_=>none
def Cc (hp:List AB) (tm:List AV):(ps:List PK)->List Operand->Option (PT ps)
 | [],[]=>some ()
 | .ty t::ts,o::os=>match AW tm o with
   | .val cs=>match E6 hp t cs with
     | some (x,[])=>match Cc hp tm ts os with
       | some xs=>some (x,xs)
       | none=>none
     | _=>none
   | _=>none
 | .st e fs::ts,o::os=>match AW tm o with
   | .val [.ptr j 0]=>match hp[j]? with
     | some (.cells _ e' cs)=>if e'=e then(match J0 hp fs cs with
       | some x=>match Cc hp tm ts os with
         | some xs=>some (x,xs)
         | none=>none
       | none=>none) else none
     | _=>none
   | _=>none
 | .LP e t::ts,o::os=>match AW tm o with
   | .val [.own j]=>match hp[j]? with
     | some (.row _ e' t' xs)=>if h:e'=e/\t'=t then(match Cc hp tm ts os with
       | some ys=>h.2▸some (xs,ys)
       | none=>none) else none
     | _=>none
   | _=>none
 | _,_=>none
def ay (hp:List AB) (tm:List AV):List PK->List Operand->List (Nat × AB)
 | .ty t::ts,o::os=>Lc hp (cellsOf (AW tm o))++ay hp tm ts os
 | _::ts,_::os=>ay hp tm ts os
 | _,_=> []
def Dr (hp:List AB) (rq:Lq):(fs:List FK)->FT fs->List AC->Nat->List AC × List (Nat × AB)
 | .ty t::l,(x,y),cs,b=>((X9 t x)++(Dr hp rq l y (cs.drop t.size) b).1,(Dr hp rq l y (cs.drop t.size) b).2)
 | .row true e t::l,(x,y), .own j::cs,b=>(.own j::(Dr hp rq l y cs b).1,(match hp[j]? with
   | some (.row q _ _ _)=>(j, .row q e t x)::(Dr hp rq l y cs b).2
   | _=>(Dr hp rq l y cs b).2))
 | .row false e t::l,(x,y), .own j::cs,b=>(.own b::(Dr hp rq l y cs (b+1)).1,(b, .row rq e t x)::(j, .used)::(Dr hp rq l y cs (b+1)).2)
 | .row false e t::l,(x,y),_::cs,b=>(.own b::(Dr hp rq l y cs (b+1)).1,(b, .row rq e t x)::(Dr hp rq l y cs (b+1)).2)
 | _,_,cs,_=>(cs,[])
def FI:List FK->Nat
 | []=>0
 | .row false _ _::l=>FI l+1
 | _::l=>FI l
def FL (hp:List AB) (tm:List AV) (rq:Lq):(ps:List PK)->ET ps->List Operand->Nat->List (Nat × AB)
 | .ty _::ts,x,_::os,b=>FL hp tm rq ts x os b
 | .st e fs::ts,(x,y),o::os,b=>match AW tm o with
   | .val [.ptr j 0]=>match hp[j]? with
     | some (.cells q _ cs)=>(j, .cells q e (Dr hp rq fs x cs b).1)::((Dr hp rq fs x cs b).2++FL hp tm rq ts y os (b+FI fs))
     | _=> []
   | _=> []
 | .LP e t::ts,(x,y),o::os,b=>match AW tm o with
   | .val [.own j]=>match hp[j]? with
     | some (.row q _ _ _)=>(j, .row q e t x)::FL hp tm rq ts y os b
     | _=> []
   | _=> []
 | _,_,_,_=> []
def ABo:List FK->Bool
 | []=>true
 | .row true _ _::l=>ABo l
 | _=>false
def D3 (tm:List AV):List PK->List Operand->List Nat
 | .st _ fs::ts,o::os=>match ABo fs,AW tm o with
   | true, .val [.ptr j 0]=>j::D3 tm ts os
   | _,_=>D3 tm ts os
 | _::ts,_::os=>D3 tm ts os
 | _,_=> []
def mB:List (Nat × AB)->Nat->Nat
 | [],_=>0
 | p::l,j=>if p.1=j then mB l j+1 else mB l j
def without (ks:List Nat):List (Nat × AB)->List (Nat × AB)
 | []=> []
 | p::l=>if ks.contains p.1=true then without ks l else p::without ks l
def cS (l:List (Nat × AB)):List Nat->List (Nat × AB)
 | []=>l
 | k::ks=>if((k::ks).all λj=>mB l j==1)=true then without (k::ks) l else l
def My (hp:List AB):List FK->List AC->Bool
 | .ty t::l,cs=>My hp l (cs.drop t.size)
 | .row _ _ _::l, .own j::cs=>(match hp[j]? with
   | some (.row .mine _ _ _)=>true
   | _=>false)&&My hp l cs
 | .row _ _ _::l,_::cs=>My hp l cs
 | _,_=>true
def HM (hp:List AB) (tm:List AV):List PK->List Operand->Bool
 | .ty _::ts,_::os=>HM hp tm ts os
 | .st _ fs::ts,o::os=>(match AW tm o with
   | .val [.ptr j 0]=>match hp[j]? with
     | some (.cells .mine _ cs)=>My hp fs cs
     | _=>false
   | _=>false)&&HM hp tm ts os
 | .LP _ _::ts,o::os=>(match AW tm o with
   | .val [.own j]=>match hp[j]? with
     | some (.row .mine _ _ _)=>true
     | _=>false
   | _=>false)&&HM hp tm ts os
 | _,_=>true
def KB (b:Bool):Lq:=match b with
 | true=> .mine
 | false=> .GF
def HX:List FK->List AC->List Nat
 | .ty t::l,cs=>HX l (cs.drop t.size)
 | .row _ _ _::l, .own j::cs=>j::HX l cs
 | .row _ _ _::l,_::cs=>HX l cs
 | _,_=> []
def EH (hp:List AB) (tm:List AV):List PK->List Operand->List Nat
 | .ty _::ts,_::os=>EH hp tm ts os
 | .st _ fs::ts,o::os=>match AW tm o with
   | .val [.ptr j 0]=>match hp[j]? with
     | some (.cells _ _ cs)=>j::(HX fs cs++EH hp tm ts os)
     | _=> []
   | _=> []
 | .LP _ _::ts,o::os=>match AW tm o with
   | .val [.own j]=>j::EH hp tm ts os
   | _=> []
 | _,_=> []
def KC:List PK->Nat
 | []=>0
 | .st _ fs::l=>FI fs+KC l
 | _::l=>KC l
def cT:List Nat->Bool
 | []=>true
 | a::l=> !l.contains a&&cT l
def ABp (hp:List AB) (j:Nat):Bool:=match hp[j]? with
 | some .gone=>true
 | _=>false
def cU:List (Nat × Nat)->Nat->Nat
 | [],_=>0
 | (u,b)::l,i=>if i=u then b else cU l i
def qg (d:Option Tmp):List Operand->Nat
 | .tmp t::os=>max t (qg d os)
 | _::os=>qg d os
 | []=>match d with
   | some t=>t
   | none=>0
def qi (hp:List AB) (tm:List AV) (ps:List PK) (os:List Operand) (b:Nat):Bool :=
 cT (EH hp tm ps os)&&(ay hp tm ps os).all (λp=> !(EH hp tm ps os).contains p.1)&&(List.range (KC ps)).all λi=>ABp hp (b+i)
def fO {R:Type 1} (h:Option Int) (d:Int) (k:Int->R):R:=match h with
 | some x=>k x
 | none=>k d
theorem ABq {R:Type 1} (h:Option Int) (d:Int) (k:Int->R):fO h d k=k (h.getD d):=by cases h<;>rfl
def ABr (Θ:Kb) (t:TypeId):Bool:=match ti Θ t with
 | some i=>match i.kind with
   | .map kt vt=>match ti Θ kt,ti Θ vt with
     | some a,some b=>match a.kind,b.kind with
       | .int .i64, .int .i64=>l6 (.int .i64) b.zero
       | _,_=>false
     | _,_=>false
   | _=>false
 | none=>false
def yW:IntKind->Bool
 | .i64=>true
 | _=>false
def Z6 (tm:List AV):Option Operand->Option (Option Int)
 | none=>some none
 | some o=>match AW tm o with
   | .val [.ro (.int _) n]=>some (some n)
   | _=>none
def stepT (Θ:Kb) (S:FuncId->Option FE) (k:Nat) (tm:List AV) (hp:List AB) (d:Option Tmp) (o:Op) (K:AV->HC->Tree R):Tree R :=
 match o with
 | .move x | .assign x=>K (AW tm x) H0
 | .pick c x y=>match AW tm c with
   | .val [.ro .bool b]=>Tree.Lb ((b:Bool)=true) (K (AW tm x) H0) (K (AW tm y) H0)
   | _=> .non
 | .binOp op t x y _=>match AW tm x,AW tm y with
   | .val [.ro (.int k) m], .val [.ro (.int k') n]=>if AEc op=true then cQ op k m n (λv=>K v H0) else if k=k' then vO op k m n (λv=>K v H0) else .non
   | .val [.ro .bool m], .val [.ro .bool n]=>match ti Θ t with
     | some i=>match i.kind with
       | .bool=>mA op m n (λv=>K v H0)
       | _=> .non
     | none=> .non
   | .val [.ro .str m], .val [.ro .str n]=>match ti Θ t with
     | some i=>match i.kind with
       | .str=>vP op m n (λv=>K v H0)
       | _=> .non
     | none=> .non
   | .val [.ptr _ _], .val [.Mq]=>match ti Θ t with
     | some i=>match i.kind with
       | .ptr=>cR op false (λv=>K v H0)
       | _=> .non
     | none=> .non
   | .val [.Mq], .val [.Mq]=>match ti Θ t with
     | some i=>match i.kind with
       | .ptr=>cR op true (λv=>K v H0)
       | _=> .non
     | none=> .non
   | _,_=> .non
 | .unOp op _ x=>match op,AW tm x with
   | .not, .val [.ro .bool b]=>K (bv (!b)) H0
   | .neg, .val [.ro (.int k) n]=>K (iv k (wr k (-(n:Int)))) H0
   | .xor, .val [.ro (.int k) n]=>K (iv k (Go.bits .xor k (if k.signed then -1 else k.max) n)) H0
   | _,_=> .non
 | .convert s t x=>match AW tm x,ti Θ s,ti Θ t with
   | .val [.ro (.int _) n],some _,some i=>match i.kind with
     | .int k'=>K (iv k' (wr k' n)) H0
     | _=> .non
   | _,_,_=> .non
 | .nilCheck x=>match AW tm x with
   | .val [.ptr j o]=>K (.val [.ptr j o]) H0
   | _=> .non
 | .extract x i=>match AW tm x with
   | .tup ts=>match ts[i]? with
     | some cs=>K (.val cs) H0
     | none=> .non
   | _=> .non
 | .load t x=>match AW tm x,ti Θ t with
   | .val [.ptr j o],some i=>match hp[j]? with
     | some (.cells _ _ cs)=>if o+i.size<=cs.length then K (.val ((cs.drop o).take i.size)) H0 else .non
     | _=> .non
   | .val [.rel t' y],some i=>if i.size=t'.size then K (.val (X9 t' y)) H0 else .non
   | .val [.um j q o sz],some i=>match hp[j]? with
     | some (.row _ _ t' xs)=>if sz=t'.size then(match part t' ((xs:List (T t')).getD q.toNat (dflt t')) o i.size with
       | some (.rel t2 y)=>if i.size=t2.size then K (.val (X9 t2 y)) H0 else .non
       | _=> .non) else .non
     | _=> .non
   | _,_=> .non
 | .store t x y=>match AW tm x,AW tm y,ti Θ t with
   | .val [.ptr j o], .val xs,some i=>match hp[j]? with
     | some (.cells q e cs)=>if xs.length=i.size/\o+i.size<=cs.length then K .Fm ⟨none,[(j, .cells q e (cs.take o++xs++cs.drop (o+i.size)))]⟩ else .non
     | _=> .non
   | .val [.um j q 0 sz], .val ys,some i=>match hp[j]? with
     | some (.row lq e t' xs)=>if sz=t'.size/\i.size=sz/\Jw (Lc hp ys) j=false then(match E6 hp t' ys with
       | some (y,[])=>K .Fm ⟨none,(j, .row lq e t' ((xs:List (T t')).set q.toNat y))::Lc hp ys⟩
       | _=> .non) else .non
     | _=> .non
   | .val [.Ia j], .val ys,some i=>match i.kind with
     | .arr n _=>match hp[j]? with
       | some (.row lq e t' xs)=>if i.size=n*t'.size/\Jw (Lc hp ys) j=false then(match rows hp t' n ys with
         | some xs'=>Tree.Lb ((xs:List (T t')).length=n) (K .Fm ⟨none,(j, .row lq e t' xs')::Lc hp ys⟩) .non
         | none=> .non) else .non
       | _=> .non
     | _=> .non
   | _,_,_=> .non
 | .fieldAddr s x f=>match AW tm x,ti Θ s with
   | .val [.ptr j o],some i=>match i.kind with
     | .struct fs=>match fs[f]? with
       | some (off,sz)=>if sz=0 then .non else K (.val [.ptr j (o+off)]) H0
       | none=> .non
     | _=> .non
   | .val [.um j q o z],some i=>match i.kind with
     | .struct fs=>match fs[f]? with
       | some (off,sz)=>if sz=0 then .non else K (.val [.um j q (o+off) z]) H0
       | none=> .non
     | _=> .non
   | .val [.rel t y],some i=>match i.kind with
     | .struct fs=>match fs[f]? with
       | some (off,sz)=>if sz=0 then .non else match part t y off sz with
         | some c=>K (.val [c]) H0
         | none=> .non
       | none=> .non
     | _=> .non
   | _,_=> .non
 | .indexAddr t x y=>match AW tm x,AW tm y,ti Θ t with
   | .val [.ro (.row e t') xs], .val [.ro (.int _) i],some q=>match q.kind with
     | .slice e'=>match ti Θ e' with
       | some z=>if e=e'/\z.size=t'.size then Tree.Lb ((0:Int)<=i) (Tree.Lb ((i:Int)<((xs:List (T t')).length:Int)) (K (.val [.rel t' ((xs:List (T t')).getD (i:Int).toNat (dflt t'))]) H0) .non) .non else .non
       | none=> .non
     | _=> .non
   | .val [.Ia j], .val [.ro (.int _) i],some q=>match q.kind with
     | .arr n e'=>match ti Θ e' with
       | some z=>match hp[j]? with
         | some (.row _ _ t' xs)=>if z.size=t'.size then Tree.Lb ((0:Int)<=i) (Tree.Lb ((i:Int)<(n:Int)) (Tree.Lb ((i:Int)<((xs:List (T t')).length:Int)) (K (.val [.um j i 0 t'.size]) H0) .non) .non) .non else .non
         | _=> .non
       | none=> .non
     | _=> .non
   | .val [.own j], .val [.ro (.int _) i],some q=>match q.kind with
     | .slice e'=>match ti Θ e' with
       | some z=>match hp[j]? with
         | some (.row _ e t' xs)=>if e=e'/\z.size=t'.size then Tree.Lb ((0:Int)<=i) (Tree.Lb ((i:Int)<((xs:List (T t')).length:Int)) (K (.val [.um j i 0 t'.size]) H0) .non) .non else .non
         | some (.cM e t' xs)=>if e=e'/\z.size=t'.size then Tree.Lb ((0:Int)<=i) (Tree.Lb ((i:Int)<((xs:List (T t')).length:Int)) (K (.val [.rel t' ((xs:List (T t')).getD (i:Int).toNat (dflt t'))]) H0) .non) .non else .non
         | _=> .non
       | none=> .non
     | _=> .non
   | _,_,_=> .non
 | .index t x y=>match ti Θ t with
   | some q=>match q.kind with
     | .str=>match AW tm x,AW tm y with
       | .val [.ro .str s], .val [.ro (.int _) i]=>Tree.Lb ((0:Int)<=i) (Tree.Lb ((i:Int)<((s:ByteArray).size:Int)) (K (iv .u8 (bt s i)) H0) .non) .non
       | _,_=> .non
     | .arr n e=>match AW tm x,AW tm y,ti Θ e with
       | .val cs, .val [.ro (.int _) i],some z=>if cs.length=n*z.size/\cs.length≠1 then Tree.Lb ((0:Int)<=i) (Tree.Lb ((i:Int)<(n:Int)) (K (.val ((cs.drop ((i:Int).toNat*z.size)).take z.size)) H0) .non) .non else .non
       | _,_,_=> .non
     | _=> .non
   | none=> .non
 | .box e x=>match AW tm x,d with
   | .val cs,some t=>match ti Θ e with
     | some i=>match i.kind with
       | .arr n e'=>match ti Θ e' with
         | some z=>match z.ty with
           | some ty=>if z.size=ty.size/\n≠0/\n<=1000/\z.size<=1000 then(match rows hp ty n cs with
             | some xs=>K (.val [.Ia t]) ⟨some (.row .mine e ty xs),Lc hp cs⟩
             | none=> .non) else .non
           | none=> .non
         | none=> .non
       | _=>K (.val [.ptr t 0]) ⟨some (.cells .mine e cs),[]⟩
     | none=>K (.val [.ptr t 0]) ⟨some (.cells .mine e cs),[]⟩
   | _,_=> .non
 | .alloc e=>match ti Θ e,d with
   | some i,some t=>match i.kind with
     | .arr n e'=>match ti Θ e' with
       | some z=>match z.ty with
         | some ty=>if z.size=ty.size/\n≠0/\n<=1000/\z.size<=1000/\Jz i.zero=true then(match rows hp ty n i.zero with
           | some xs=>K (.val [.Ia t]) ⟨some (.row .mine e ty xs),Lc hp i.zero⟩
           | none=> .non) else .non
         | none=> .non
       | none=> .non
     | _=>K (.val [.ptr t 0]) ⟨some (.cells .mine e i.zero),[]⟩
   | _,_=> .non
 | .build t ps=>match ti Θ t with
   | some i=>match i.kind with
     | .struct fs=>if fs.all (λp=>p.2 !=0)=true then(match Mw (fs[·]?) i.zero (ps.toList.map λp=>(p.1,AW tm p.2)) with
       | some cs=>if cs.length=1 then .non else K (.val cs) H0
       | none=> .non) else .non
     | .arr n e=>match ti Θ e with
       | some z=>(match Mw (λi=>some (i*z.size,z.size)) i.zero (ps.toList.map λp=>(p.1,AW tm p.2)) with
         | some cs=>if cs.length=1 then .non else K (.val cs) H0
         | none=> .non)
       | none=> .non
     | _=> .non
   | none=> .non
 | .buildSlice t n ps=>match ti Θ t with
   | some i=>match i.kind with
     | .slice e=>match ti Θ e with
       | some z=>match z.ty with
         | some ty=>if z.size=ty.size/\n*z.size<=1000/\Jz z.zero=true then(match Mw (λi=>some (i*z.size,z.size)) ((List.range n).flatMap λ_=>z.zero) (ps.toList.map λp=>(p.1,AW tm p.2)),d with
           | some cs,some q=>match rows hp ty n cs with
             | some xs=>if n=0 then K (.val [.own q]) ⟨some (.row .mine e ty xs),[]⟩ else K (.val [.ro (.row e ty) xs]) ⟨none,Lc hp cs⟩
             | none=> .non
           | _,_=> .non) else .non
         | none=> .non
       | none=> .non
     | _=> .non
   | none=> .non
 | .makeSlice t x y=>match ti Θ t,d with
   | some i,some q=>match i.kind with
     | .slice e=>match ti Θ e with
       | some z=>match z.ty with
         | some ty=>if z.size=ty.size/\l6 ty z.zero=true/\z.bytes≠0 then(match AW tm x,AW tm y with
           | .val [.ro (.int _) n], .val [.ro (.int _) c]=>Tree.Lb ((0:Int)<=n) (Tree.Lb ((n:Int)<=c) (Tree.Lb ((c:Int).toNat*z.bytes<=281474976710656) (K (.val [.own q]) ⟨some (.row .mine e ty (List.replicate (n:Int).toNat (dflt ty))),[]⟩) .non) .non) .non
           | _,_=> .non) else .non
         | none=> .non
       | none=> .non
     | _=> .non
   | _,_=> .non
 | .makeMap t none=>match d with
   | some q=>if ABr Θ t=true then K (.val [.own q]) ⟨some (.map []),[]⟩ else .non
   | none=> .non
 | .lookup t x y false=>match AW tm x,AW tm y with
   | .val [.own j], .val [.ro (.int k) n]=>match hp[j]? with
     | some (.map xs)=>if ABr Θ t=true/\yW k=true then K (iv .i64 (qY xs n)) H0 else .non
     | _=> .non
   | _,_=> .non
 | .mapUpdate t x y z=>match AW tm x,AW tm y,AW tm z,d with
   | .val [.own j], .val [.ro (.int k) n], .val [.ro (.int k') v],none=>match hp[j]? with
     | some (.map xs)=>if ABr Θ t=true/\yW k=true/\yW k'=true then K .Fm ⟨none,[(j, .map (cL xs n v))]⟩ else .non
     | _=> .non
   | _,_,_,_=> .non
 | .slice t x lo hi mx=>match ti Θ t,mx with
   | some i,none=>match i.kind,AW tm x,Z6 tm lo,Z6 tm hi with
     | .slice e, .val [c],some l,some h=>match ti Θ e with
       | some z=>match z.ty with
         | some ty=>if z.size=ty.size then(match V6 hp e ty c with
           | some xs=>fO h ((xs:List (T ty)).length:Int) λh'=>fO l 0 λl' =>
             Tree.Lb ((0:Int)<=l') (Tree.Lb (l'<=h') (Tree.Lb (h'<=((xs:List (T ty)).length:Int)) (K (.val [.ro (.row e ty) (((xs:List (T ty)).take h'.toNat).drop l'.toNat)]) ⟨none,Lc hp [c]⟩) .non) .non) .non
           | none=> .non) else .non
         | none=> .non
       | none=> .non
     | .str, .val [.ro .str s],some l,some h=>fO h ((s:ByteArray).size:Int) λh'=>fO l 0 λl' =>
       Tree.Lb ((0:Int)<=l') (Tree.Lb (l'<=h') (Tree.Lb (h'<=((s:ByteArray).size:Int)) (K (.val [.ro .str ((s:ByteArray).extract l'.toNat h'.toNat)]) H0) .non) .non) .non
     | _,_,_,_=> .non
   | _,_=> .non
 | .call c=>match c.callee with
   | .value (.func g)=>match S g with
     | some (.io s nm)=>match Cc hp tm s.ps c.args.toList with
       | some x=>if qi hp tm s.ps c.args.toList (cU nm (qg d c.args.toList))=true then Tree.iE (s.f k x) λr=>K (vN s.rs r.1) ⟨none,cS (FL hp tm (KB (HM hp tm s.ps c.args.toList)) s.ps r.2 c.args.toList (cU nm (qg d c.args.toList))) (D3 tm s.ps c.args.toList)++ay hp tm s.ps c.args.toList⟩ else .non
       | none=> .non
     | some (.pu s)=>match args hp tm s.ps c.args.toList with
       | some x=>Tree.iE (s.f k x) λr=>K (vN s.rs r) ⟨none,if s.rs.all V3=true then[] else IX hp tm c.args.toList⟩
       | none=> .non
     | some (.np s)=>match args hp tm s.ps c.args.toList,d with
       | some x,some q=>Tree.iE (s.f k x) λr=>Tree.Lb (r.1=true) (K (.val [.Mq]) ⟨none,IX hp tm c.args.toList⟩) (K (.val [.ptr q 0]) ⟨some (.cells .mine s.e (ncs s.fs r.2)),IX hp tm c.args.toList⟩)
       | _,_=> .non
     | some (.nw s)=>match args hp tm s.ps c.args.toList,d with
       | some x,some q=>Tree.iE (s.f k x) λr=>K (.val [.own q]) ⟨some (.row .mine s.e s.t r),IX hp tm c.args.toList⟩
       | _,_=> .non
     | none=> .non
   | .builtin .len=>match c.args.toList,c.argTypes.toList with
     | [x],[t]=>match AW tm x,ti Θ t with
       | .val [.ro (.row _ t') xs],some i=>match i.kind with
         | .slice _=>K (iv .i64 ((xs:List (T t')).length:Int)) H0
         | _=> .non
       | .val [.Bx],some i=>match i.kind with
         | .slice _=>K (iv .i64 0) H0
         | _=> .non
       | .val [.own j],some i=>match i.kind with
         | .slice _=>match hp[j]? with
           | some (.row _ _ t' xs)=>K (iv .i64 ((xs:List (T t')).length:Int)) H0
           | some (.cM _ t' xs)=>K (iv .i64 ((xs:List (T t')).length:Int)) H0
           | _=> .non
         | _=> .non
       | .val [.ro .str s],some i=>match i.kind with
         | .str=>K (iv .i64 ((s:ByteArray).size:Int)) H0
         | _=> .non
       | _,_=> .non
     | _,_=> .non
   | .builtin .max=>match c.args.toList with
     | [x,y]=>match AW tm x,AW tm y with
       | .val [.ro (.int k) m], .val [.ro (.int _) n]=>K (iv k (mx m n)) H0
       | _,_=> .non
     | _=> .non
   | .builtin .min=>match c.args.toList with
     | [x,y]=>match AW tm x,AW tm y with
       | .val [.ro (.int k) m], .val [.ro (.int _) n]=>K (iv k (mn m n)) H0
       | _,_=> .non
     | _=> .non
   | .builtin .append=>match c.args.toList,c.argTypes.toList,d with
     | [x,y],[t,t2],some q=>if t=t2 then(match ti Θ t with
       | some i=>match i.kind with
         | .slice e=>match ti Θ e with
           | some z=>match z.ty with
             | some ty=>if z.size=ty.size/\z.bytes≠0 then(match AW tm x,AW tm y with
               | .val [cx], .val [cy]=>match Mx hp e ty cx,jX hp e ty cy with
                 | some (src,lq,xs),some ys=>Tree.Lb (((xs:List (T ty)).length+(ys:List (T ty)).length)*z.bytes<=140737488355328) (K (.val [.own q]) ⟨some (.row lq e ty (xs++ys)),src⟩) .non
                 | _,_=> .non
               | _,_=> .non) else .non
             | none=> .non
           | none=> .non
         | _=> .non
       | none=> .non) else .non
     | _,_,_=> .non
   | _=> .non
 | _=> .non
end
end
end Go.Proofs.YtjocbnjpjihpnaaGreatW.HU
end
section
namespace Go.Proofs.YtjocbnjpjihpnaaGreatW.HU
open Go.RowKit Go.Proofs.YtjocbnjpjihpnaaGreatW.AD Go.Proofs.YtjocbnjpjihpnaaGreatW.AU Go.Proofs.YtjocbnjpjihpnaaGreatW.Ac
set_option linter.unusedVariables false
set_option linter.unusedSectionVars false
set_option linter.unusedSimpArgs false
section
def Goes (P:Program) (o:Oper) (U0:Nat->Prop) (ν:Nat->Value) (tm:List AV) (hp:List AB) (w0:St) (a:Act) (w:World) (x:AV) (δ:HC):Prop :=
 hok o.dst hp δ=true-> ∀(next:Act->World->Prop) (Q:Exit->Act->World->Prop),
  (∀ν' v w',Inv U0 ν' (Mr tm o.dst x) (PD o.dst hp δ) w0 (a.put o.dst v) w'->next (a.put o.dst v) w')->o.wp P a w next Q
section
variable {P:Program} {o:Oper} {U0:Nat->Prop} {ν:Nat->Value} {L:Nat->Prop} {tm:List AV} {hp:List AB} {w0:St} {w:World} {a:Act}
theorem Ah (I:Inv U0 ν tm hp w0 a w) {x:AV} {v:Value} (hrun:(execOp a.eval o).run P w= .ok (.value v) w) (hx:Gg U0 ν (lv hp) w x v):Goes P o U0 ν tm hp w0 a w x H0:=by
 intro _ next Q h
 unfold Oper.wp;rw[hrun];exact h ν v w (I.RE o.dst hx)
theorem ABs {R:AC->Value->Prop} {c:AC} {vs:List Value} (h:CZ R [c] vs) : ∃v,vs= [v]/\R c v:=by
 match vs,h with
 | [v],h=>exact⟨v,rfl,h.1⟩
 | [],h=>exact h.elim
 | _::_::_,h=>exact h.2.elim
theorem val_one {c:AC} {v:Value} (h:Gg U0 ν L w (.val [c]) v):Cw U0 ν L w c v:=by
 obtain⟨vs,h1,h2⟩:=h;obtain⟨u,rfl,h3⟩:=ABs h2;rw[h1];exact h3
theorem V7 {v:Value} (h:Cw U0 ν L w .Mq v):v= .pointer none:=h
theorem Ek {c:AC} {v:Value} (h:Cw U0 ν L w c v):Gg U0 ν L w (.val [c]) v:=⟨[v],rfl,h,trivial⟩
theorem GG {k:IntKind} {n:Int} {v:Value} (h:Gg U0 ν L w (.val [.ro (.int k) n]) v):v= .int k n:=by
 have:=(val_one h).2;exact(ARE this).1
theorem TD {b:Bool} {v:Value} (h:Gg U0 ν L w (.val [.ro .bool b]) v):v= .bool b:=by
 have:=(val_one h).2;exact(ARE this).1
theorem cV {s:ByteArray} {v:Value} (h:Gg U0 ν L w (.val [.ro .str s]) v):v= .string s:=by
 have:=(val_one h).2;exact(ARE this).1
theorem Ib (k:IntKind) (n:Int):Gg U0 ν L w (iv k n) (.int k n):=Ek ⟨rfl,rfl⟩
theorem YA (b:Bool):Gg U0 ν L w (bv b) (.bool b):=Ek ⟨rfl,rfl⟩
end
section
variable {P:Program} {Θ:Kb} {S:FuncId->Option FE} {k:Nat} {o:Oper} {U0:Nat->Prop} {ν:Nat->Value} {tm:List AV} {hp:List AB} {w0:St} {w:World} {a:Act} {R:Type} {K:AV->HC->Tree R} {r:R}
def Cy (P:Program) (Θ:Kb) (S:FuncId->Option FE) (k:Nat) (o:Oper) (U0:Nat->Prop) (ν:Nat->Value) (tm:List AV) (hp:List AB) (w0:St) (a:Act) (w:World) {R:Type} (K:AV->HC->Tree R) (r:R):Prop :=
 ∃x δ,(K x δ).run=some r/\Goes P o U0 ν tm hp w0 a w x δ
theorem yX (I:Inv U0 ν tm hp w0 a w) {x:Operand} (ho:o.op= .move x\/o.op= .assign x) (h:(K (AW tm x) H0).run=some r):Cy P Θ S k o U0 ν tm hp w0 a w K r:=by
 refine⟨_,_,h,Ah I (v:=a.eval x) ?_ (I.AW x)⟩;rcases ho with ho | ho<;>simp[execOp,ho]
theorem AEd (I:Inv U0 ν tm hp w0 a w) {c x y:Operand} (ho:o.op= .pick c x y) (h:(stepT Θ S k tm hp o.dst (.pick c x y) K).run=some r):Cy P Θ S k o U0 ν tm hp w0 a w K r:=by
 simp only[stepT] at h;split at h
 · rename_i b hc
   have hv:=TD (hc▸I.AW c);rcases Tree.Mv h with⟨hb,h⟩ | ⟨hb,h⟩
   · refine⟨_,_,h,Ah I (v:=a.eval x) ?_ (I.AW x)⟩
     simp[execOp,ho,hv,asBool,hb]
   · refine⟨_,_,h,Ah I (v:=a.eval y) ?_ (I.AW y)⟩
     simp[execOp,ho,hv,asBool,hb]
 · cases h
theorem Bc (hΘ:Θ.ok P=true) {t:TypeId} {i:TI} (h:ti Θ t=some i) : ∃f d,P.info? t=some f/\P.underlying t=some d/\f.size=i.size/\f.bytes=i.bytes/\Jy P d i.kind=true/\iC d=(i.size !=1)/\i.zero.length=i.size/\ ∃z:List Value,f.zero=some (O9 z)/\zcs z i.zero=true:=ABg (AF9 hΘ h)
theorem AAP {d:TypeDesc} (h:Jy P d .bool=true):d= .bool:=by
 cases d<;>simp[Jy] at h<;>rfl
theorem KD {d:TypeDesc} {e:TypeId} (h:Jy P d (.slice e)=true):d= .slice e:=by
 cases d<;>simp[Jy] at h
 rw[h]
theorem Mz {d:TypeDesc} {gs:List (Nat × Nat)} (h:Jy P d (.struct gs)=true) : ∃fs,d= .struct fs/\fs.toList.map (λf=>(f.offset,((P.info? f.type).map (·.size)).getD 0))=gs:=by
 cases d<;>simp[Jy] at h
 exact⟨_,rfl,by simpa using h⟩
theorem cW {d:TypeDesc} {n:Nat} {e:TypeId} (h:Jy P d (.arr n e)=true):d= .array n e:=by
 cases d<;>simp[Jy] at h
 rw[h.1,h.2]
theorem V8 {d:TypeDesc} (h:Jy P d .str=true):d= .string:=by
 cases d<;>simp[Jy] at h<;>rfl
theorem AEe (k k':IntKind) (x y:Int) (h:0<=y):Op.shift .shl k x k' y=pure (.int k (shl k x y)):=by
 simp[Op.shift,shl];omega
theorem AEf (k k':IntKind) (x y:Int) (h:0<=y):Op.shift .shr k x k' y=pure (.int k (shr k x y)):=by
 have hp:(0:Int)<=2^min y.toNat k.bits:=Int.pow_nonneg (by decide);simp[Op.shift,shr,Int.fdiv_eq_ediv_of_nonneg _ hp];omega
theorem ABt {d:TypeDesc} (h:Jy P d .ptr=true) : ∃e,d= .pointer e:=by
 cases d<;>simp[Jy] at h
 exact⟨_,rfl⟩
theorem jY (hΘ:Θ.ok P=true) (I:Inv U0 ν tm hp w0 a w) {b:BinOp} {t u:TypeId} {x y:Operand} {i:TI} {A:Option Addr} (ho:o.op= .binOp b t x y u) (hi:ti Θ t=some i) (hk:i.kind= .ptr) (h1:a.eval x= .pointer A) (h2:a.eval y= .pointer none) (h:(cR b A.isNone (λv=>K v H0)).run=some r):Cy P Θ S k o U0 ν tm hp w0 a w K r:=by
 obtain⟨f,d,_,ht,_,_,hd,_⟩:=Bc hΘ hi;rw[hk] at hd;obtain⟨e,rfl⟩:=ABt hd;have key:(Op.equal t (.pointer A) (.pointer none)).run P w= .ok A.isNone w:=by
  unfold Op.equal Op.maxDepth Op.equalIn;cases A with
  | none=>simp[run_underlying ht]
  | some ad=>simp[run_underlying ht]
 unfold cR at h;cases b<;>simp only at h<;>first
  | exact(Tree.IC h).elim
  | exact⟨_,_,h,Ah I (by simp only[execOp,ho,h1,h2];simp[eqGuard,binOp,key]) (YA _)⟩
theorem ABu (hΘ:Θ.ok P=true) (I:Inv U0 ν tm hp w0 a w) {b:BinOp} {t u:TypeId} {x y:Operand} (ho:o.op= .binOp b t x y u) (h:(stepT Θ S k tm hp o.dst (.binOp b t x y u) K).run=some r):Cy P Θ S k o U0 ν tm hp w0 a w K r:=by
 simp only[stepT] at h;split at h
 · rename_i k m k' n hx hy
   have h1:=GG (hx▸I.AW x);have h2:=GG (hy▸I.AW y);split at h
   · unfold cQ at h
     cases b<;>simp only at h<;>first
      | exact(Tree.IC h).elim
      | (obtain⟨hn,h⟩:=Tree.need h
         exact⟨_,_,h,Ah I (by simp only[execOp,ho,h1,h2];simp[go_sem,AEe _ _ _ _ hn,AEf _ _ _ _ hn]) (Ib _ _)⟩)
   · split at h
     · rename_i hk
       subst hk;unfold vO at h;cases b<;>simp only[wr_eq] at h<;>first
        | exact(Tree.IC h).elim
        | exact⟨_,_,h,Ah I (by simp only[execOp,ho,h1,h2];simp[go_sem];rfl) (by first | exact Ib _ _ | exact YA _)⟩
        | (obtain⟨hn,h⟩:=(Tree.Mv h).resolve_left (λq=>Tree.IC q.2)
           exact⟨_,_,h,Ah I (by simp only[execOp,ho,h1,h2];simp[go_sem,Op.intDiv,hn]) (Ib _ _)⟩)
     · cases h
 · rename_i m n hx hy
   have h1:=TD (hx▸I.AW x);have h2:=TD (hy▸I.AW y);split at h
   · rename_i i hi
     split at h
     · rename_i hk
       obtain⟨f,d,_,ht,_,_,hd,_⟩:=Bc hΘ hi;rw[hk] at hd;rw[AAP hd] at ht;unfold mA at h;cases b<;>simp only at h<;>first
        | exact(Tree.IC h).elim
        | exact⟨_,_,h,Ah I (by simp only[execOp,ho,h1,h2];simp[go_sem,ht];rfl) (by first | exact Ib _ _ | exact YA _)⟩
     · cases h
   · cases h
 · rename_i m n hx hy
   have h1:=cV (hx▸I.AW x);have h2:=cV (hy▸I.AW y);split at h
   · rename_i i hi
     split at h
     · rename_i hk
       obtain⟨f,d,_,ht,_,_,hd,_⟩:=Bc hΘ hi;rw[hk] at hd;rw[V8 hd] at ht;unfold vP at h;cases b
       case add =>
        simp only at h;obtain⟨hn,h⟩:=Tree.need h;refine⟨_,_,h,Ah I (v:= .string (m++n)) ?_ (Ek (c:= .ro .str (m++n)) ⟨rfl,rfl⟩)⟩;simp only[execOp,ho,h1,h2];have qj : ¬((ByteArray.size m+ByteArray.size n:Nat):Int)>IntKind.i64.max:=(by simp only[IntKind.max,IntKind.signed,IntKind.bits];omega);simp[go_sem,ht,Op.stringOp,qj];omega
       case eql=>exact⟨_,_,h,Ah I (v:= .bool ((m:ByteArray).toList==(n:ByteArray).toList)) (by simp only[execOp,ho,h1,h2];simp[go_sem,ht];done) (YA _)⟩
       case neq=>exact⟨_,_,h,Ah I (v:= .bool (!((m:ByteArray).toList==(n:ByteArray).toList))) (by simp only[execOp,ho,h1,h2];simp[go_sem,ht];done) (YA _)⟩
       all_goals exact(Tree.IC h).elim
     · cases h
   · cases h
 · rename_i j off hx hy
   split at h
   · rename_i i hi
     split at h
     · rename_i hk
       obtain⟨_,g,_,h1⟩:=val_one (hx▸I.AW x);have h2:a.eval y= .pointer none:=V7 (val_one (hy▸I.AW y));exact jY hΘ I ho hi hk h1 h2 h
     · cases h
   · cases h
 · rename_i hx hy
   split at h
   · rename_i i hi
     split at h
     · rename_i hk
       have h1:a.eval x= .pointer none:=V7 (val_one (hx▸I.AW x));have h2:a.eval y= .pointer none:=V7 (val_one (hy▸I.AW y));exact jY hΘ I ho hi hk h1 h2 h
     · cases h
   · cases h
 · cases h
theorem AEg (I:Inv U0 ν tm hp w0 a w) {b:UnOp} {t:TypeId} {x:Operand} (ho:o.op= .unOp b t x) (h:(stepT Θ S k tm hp o.dst (.unOp b t x) K).run=some r):Cy P Θ S k o U0 ν tm hp w0 a w K r:=by
 simp only[stepT] at h;split at h
 · rename_i m hx
   have h1:=TD (hx▸I.AW x);exact⟨_,_,h,Ah I (by simp only[execOp,ho,h1];simp[go_sem]) (YA (!m))⟩
 · rename_i k n hx
   have h1:=GG (hx▸I.AW x);rw[wr_eq] at h;refine⟨_,_,h,Ah I ?_ (Ib k (k.wrap (-(n:Int))))⟩;simp only[execOp,ho,h1];simp[go_sem]
 · rename_i k n hx
   have h1:=GG (hx▸I.AW x);refine⟨_,_,h,Ah I ?_ (Ib k _)⟩;simp only[execOp,ho,h1];simp[go_sem,Op.unary]
 · cases h
theorem qk (I:Inv U0 ν tm hp w0 a w) {x:Operand} (ho:o.op= .nilCheck x) (h:(stepT Θ S k tm hp o.dst (.nilCheck x) K).run=some r):Cy P Θ S k o U0 ν tm hp w0 a w K r:=by
 simp only[stepT] at h;split at h
 · rename_i j off hx
   have hr:=I.AW x;rw[hx] at hr;obtain⟨hj,g,hν,hv⟩:=val_one hr;refine⟨_,_,h,Ah I (v:=a.eval x) ?_ hr⟩;simp[execOp,ho,hv]
 · cases h
theorem ql {d:TypeDesc} {k:IntKind} (h:Jy P d (.int k)=true):d= .int k:=by
 cases d<;>simp[Jy] at h
 rw[h]
theorem vQ (hΘ:Θ.ok P=true) (I:Inv U0 ν tm hp w0 a w) {s t:TypeId} {x:Operand} (ho:o.op= .convert s t x) (h:(stepT Θ S k tm hp o.dst (.convert s t x) K).run=some r):Cy P Θ S k o U0 ν tm hp w0 a w K r:=by
 simp only[stepT] at h;split at h
 · rename_i k' n j i hx hj hi
   split at h
   · rename_i k2 hk
     have h1:=GG (hx▸I.AW x);obtain⟨_,d,_,hd,_,_,hB,_⟩:=Bc hΘ hi;rw[hk] at hB;rw[ql hB] at hd;obtain⟨_,d',_,hd',_⟩:=Bc hΘ hj;rw[wr_eq] at h;refine⟨_,_,h,Ah I (v:= .int k2 (k2.wrap n)) ?_ (Ib _ _)⟩;simp only[execOp,ho,h1];simp[go_sem,hd,hd']
   · cases h
 · cases h
theorem vR (I:Inv U0 ν tm hp w0 a w) {x:Operand} {i:Nat} (ho:o.op= .extract x i) (h:(stepT Θ S k tm hp o.dst (.extract x i) K).run=some r):Cy P Θ S k o U0 ν tm hp w0 a w K r:=by
 simp only[stepT] at h;split at h
 · rename_i ts hx
   split at h
   · rename_i cs hc
     have hr:=I.AW x;rw[hx] at hr;obtain⟨us,h1,h2⟩:=hr;obtain⟨u,hu,vs,e,hv⟩:=h2.get hc;refine⟨_,_,h,Ah I (v:=u) ?_ ⟨vs,e,hv⟩⟩;simp[execOp,ho,h1,Instr.extract,hu]
   · cases h
 · cases h
end
end
section
theorem cX {vs:List Value} (h:vs.length≠1):O9 vs= .agg vs.toArray:=by
 unfold O9;split
 · exact absurd rfl h
 · rfl
theorem jZ {P:Program} {w:World} {t:TypeId} {d:TypeDesc} (h:P.underlying t=some d):(isAgg t).run P w= .ok (iC d) w:=by
 unfold isAgg;simp only[Sem.run_bind,run_underlying h,Result.andThen_ok];cases d<;>simp[iC]
theorem PE {P:Program} {w:World} {t:TypeId} {f:TypeInfo} {d:TypeDesc} {n:Nat} {ad:Addr} {vs:List Value} (hf:P.info? t=some f) (hd:P.underlying t=some d) (hn:f.size=n) (ha:iC d=(n !=1)) (hl:vs.length=n) (hc : ∀i,i<n->w.cell? (ad.add i)=vs[i]?) :
 (Instr.loadAt t (.pointer (some ad))).run P w= .ok (O9 vs) w:=by
 unfold Instr.loadAt Instr.sureAddr loadVar;simp only[Sem.run_bind,Sem.run_pure,Result.andThen_ok,jZ hd,ha];by_cases h1:n=1
 · subst h1
   obtain⟨v,rfl⟩:=ATC.1 hl;have:=hc 0 (by omega);rw[Addr.add_zero'] at this;simp[run_load,this,O9]
 · have hb:(n !=1)=true:=by simpa using h1
   have hL:=run_loadCells_list (P:=P) w ad vs (λj v hv=>by
    have hj:j<n:=(by rw[<-hl];exact(APw.1 hv).1);rw[hc j hj,hv])
   rw[hl] at hL;have hs:(sizeOf t).run P w= .ok n w:=(by simp[sizeOf,typeInfo,hf,hn]);rw[cX (by omega)];simp[hb,hs,hL]
section
variable {P:Program} {Θ:Kb} {S:FuncId->Option FE} {k:Nat} {o:Oper} {U0:Nat->Prop} {ν:Nat->Value} {L:Nat->Prop} {tm:List AV} {hp:List AB} {w0:St} {w:World} {a:Act} {R:Type} {K:AV->HC->Tree R} {r:R}
theorem Inv.cells (I:Inv U0 ν tm hp w0 a w) {j:Nat} {lq:Lq} {e:TypeId} {cs:List AC} (hb:hp[j]? =some (.cells lq e cs)) : ∃g vs,ν j= .pointer (some ⟨g,0,none⟩)/\LO w0 lq g/\w.heap[g]? =some (.cells vs.toArray e (0,0))/\CZ (Cw U0 ν (lv hp) w) cs vs/\ ∀v∈vs,v.oneCell'=true:=by
 obtain⟨g,vs,q1,q2,q3,q4⟩:=I.mem j _ hb rfl;refine⟨g,vs,q1,q2,q3,q4,λv hv=> ?_⟩;obtain⟨c,_,hr⟩:=q4.mem v hv;exact hr.one I.l5
theorem Inv.um (I:Inv U0 ν tm hp w0 a w) {j:Nat} {lq:Lq} {e:TypeId} {t:Ty} {xs:List (T t)} (hb:hp[j]? =some (.row lq e t xs)) {i:Int} {off sz:Nat} {v:Value} (hv:Cw U0 ν (lv hp) w (.um j i off sz) v) (hz:sz=t.size) :
 ∃g cap cur inner,ν j= .slice (some ⟨g,0,none⟩) (List.length xs) cap/\LO w0 lq g/\w.heap[g]? =some (.cells cur e (0,0))/\cur.toList.take (List.length xs*(kd t).sz)=inner/\w.ownsRow (bs w0 lq) e (kd t).sz (ν j) (List.length xs) inner/\Bw (λx c=>Rd (Un U0 ν (lv hp)) w t x c) (kd t).sz xs inner/\i.toNat<List.length xs/\v= .pointer (some ⟨g,i.toNat*t.size+off,none⟩):=by
 obtain⟨hj,g,n,c,h1,⟨_,h2⟩,h3⟩:=hv;obtain⟨⟨inner,h4,h5⟩,hmn⟩:=I.mem j _ hb rfl;rcases h4.2 with⟨q,_⟩ | ⟨g',cap,cur,q,q2,q3,q4,q5,q6,q7⟩
 · rw[q] at h1;cases h1
 · rw[q] at h1
   injection h1 with e1 e2 e3;injection e1 with e1;injection e1 with e1;subst e1 e2;exact⟨g',cap,cur,inner,q,hmn g' (by rw[q];rfl),q3,q7,h4,h5,h2,by rw[h3,hz]⟩
theorem HY : ∀(t:Ty) (x:T t) {cs:List Value},Rd (Un U0 ν L) w t x cs->CZ (Cw U0 ν L w) (X9 t x) cs
 | .int k,x,cs,h=>by
   obtain rfl:cs= [.int k x]:=h;exact⟨⟨rfl,rfl⟩,trivial⟩
 | .bool,x,cs,h=>by
   obtain rfl:cs= [.bool x]:=h;exact⟨⟨rfl,rfl⟩,trivial⟩
 | .str,x,cs,h=>by
   obtain rfl:cs= [.string x]:=h;exact⟨⟨rfl,rfl⟩,trivial⟩
 | .row e t,x,cs,h=>by
   obtain⟨A,c,rfl,h1⟩:=h;exact⟨⟨rfl,A,c,rfl,h1⟩,trivial⟩
 | .cons p q,x,cs,h=>by
   obtain⟨c0,c1,rfl,h1,h2⟩:=h;exact(HY p x.1 h1).app (HY q x.2 h2)
theorem cY : ∀ {t:Ty} {x:T t} {off sz:Nat} {t2:Ty} {y:T t2} {U:Nat->Prop} {cs:List Value},Rd U w t x cs->part t x off sz=some (.rel t2 y)->sz=t2.size->Rd U w t2 y ((cs.drop off).take sz)
 | .int k,x,off,sz,t2,y,U,cs,hr,h,hs=>by
   simp only[part] at h;split at h
   · rename_i q;injection h with h;cases h;have hr':=hr;obtain rfl:cs= [_]:=hr;rw[q.1,q.2];exact hr'
   · cases h
 | .bool,x,off,sz,t2,y,U,cs,hr,h,hs=>by
   simp only[part] at h;split at h
   · rename_i q;injection h with h;cases h;have hr':=hr;obtain rfl:cs= [_]:=hr;rw[q.1,q.2];exact hr'
   · cases h
 | .str,x,off,sz,t2,y,U,cs,hr,h,hs=>by
   simp only[part] at h;split at h
   · rename_i q;injection h with h;cases h;have hr':=hr;obtain rfl:cs= [_]:=hr;rw[q.1,q.2];exact hr'
   · cases h
 | .row e t,x,off,sz,t2,y,U,cs,hr,h,hs=>by
   simp only[part] at h;split at h
   · rename_i q;injection h with h;cases h;obtain⟨A,c,rfl,hr⟩:=hr;rw[q.1,q.2];exact⟨A,c,rfl,hr⟩
   · cases h
 | .cons p q,x,off,sz,t2,y,U,cs,hr,h,hs=>by
   simp only[part] at h;split at h
   · rename_i e;injection h with h;cases h
     have hl:cs.length=(Ty.cons p q).size:=(by rw[(kd (.cons p q)).EI hr.K,Fz]);rw[e.1,ARh,e.2,<-hl,AQ3];exact hr
   · obtain⟨c0,c1,rfl,h1,h2⟩:=hr
     have hl:c0.length=p.size:=(by rw[(kd p).EI h1.K,Fz]);split at h
     · rename_i hlt
       have:=cY h1 h hs;have hle:off+sz<=c0.length:=by
        have h3:=(kd t2).EI this.K;rw[Fz,<-hs,APx,AQR] at h3;omega
       rw[ARK (by omega),ARB (by rw[AQR];omega)];exact this
     · rename_i hge
       have:=cY h2 h hs;rw[ARp,AQN (by omega),ARk,hl];exact this
theorem AEh (hΘ:Θ.ok P=true) (I:Inv U0 ν tm hp w0 a w) {t:TypeId} {x:Operand} (ho:o.op= .load t x) (h:(stepT Θ S k tm hp o.dst (.load t x) K).run=some r):Cy P Θ S k o U0 ν tm hp w0 a w K r:=by
 simp only[stepT] at h;split at h
 · rename_i j off i hx hi
   obtain⟨f,d,hf,hd,hs,_,_,ha,_⟩:=Bc hΘ hi;split at h
   · rename_i e cs hb
     split at h
     · rename_i hle
       obtain⟨hj,g,hν,hv⟩:=val_one (hx▸I.AW x);obtain⟨g',vs,h1,h2,h3,h4,h5⟩:=I.cells hb;rw[hν] at h1;injection h1 with h1;injection h1 with h1;injection h1 with h1;subst h1;have hlen:=h4.len;refine⟨_,_,h,Ah I (v:=O9 ((vs.drop off).take i.size)) ?_ ⟨_,rfl,(h4.drop off).take i.size⟩⟩;have hr:=PE (P:=P) (w:=w) (ad:=⟨g,off,none⟩) (vs:=(vs.drop off).take i.size) hf hd hs ha (by rw[APx,AQR];omega) (λq hq=>by
        rw[JA,Ks h3,ASH hq,AQI];simp)
       simp only[execOp,ho,hv];simp[hr]
     · cases h
   · cases h
 · rename_i t' y i hx hi
   obtain⟨f,d,hf,hd,hs,_,_,ha,_⟩:=Bc hΘ hi;split at h
   · rename_i hz
     obtain⟨ad,cs,hv,hrd,hst⟩:=val_one (hx▸I.AW x);have hlen:cs.length=i.size:=(by rw[(kd t').EI hrd.K,Fz,hz]);refine⟨_,_,h,Ah I (v:=O9 cs) ?_ ⟨cs,rfl,HY t' y hrd⟩⟩;have hr:=PE (P:=P) (w:=w) (ad:=ad) (vs:=cs) hf hd hs ha hlen (λq hq=>by
      have:=(hst q _ (AP4 (show q<cs.length by omega))).now;rw[this,AP4])
     simp only[execOp,ho,hv];simp[hr]
   · cases h
 · rename_i j q off sz i hx hi
   obtain⟨f,d,hf,hd,hs,_,_,ha,_⟩:=Bc hΘ hi;split at h
   · rename_i e t' xs hb
     split at h
     · rename_i hz
       split at h
       · rename_i t2 y Mo
         split at h
         · rename_i hz2
           obtain⟨g,cap,cur,inner,e1,e2,e3,e4,e5,e6,e7,hv⟩:=I.um hb (val_one (hx▸I.AW x)) hz;have hg:(xs:List (T t'))[q.toNat]? =some ((xs:List (T t')).getD q.toNat (dflt t')):=by
            rw[APt,AP4 e7];rfl
           have hrd:=cY (e6.2 _ _ hg) Mo hz2;have hlen:((((inner.drop (q.toNat*(kd t').sz)).take (kd t').sz).drop off).take i.size).length=i.size:=by
            have h0:=(kd t2).EI hrd.K;rw[h0,Fz t2,hz2]
           refine⟨_,_,h,Ah I (v:=O9 ((((inner.drop (q.toNat*(kd t').sz)).take (kd t').sz).drop off).take i.size)) ?_ ⟨_,rfl,HY t2 y hrd⟩⟩;have hr:=PE (P:=P) (w:=w) (ad:=⟨g,q.toNat*t'.size+off,none⟩) (vs:=(((inner.drop (q.toNat*(kd t').sz)).take (kd t').sz).drop off).take i.size) hf hd hs ha hlen (λz hz=>by
            have h3:((((inner.drop (q.toNat*(kd t').sz)).take (kd t').sz).drop off).take i.size)[z]? ≠none:=by
             rw[AP4 (by omega)];simp
            rw[JA,Ks e3];rw[ASH hz,AQI] at h3 ⊢;rw[AQF] at h3 ⊢;split at h3
            · rename_i h4
              rw[if_pos h4,AQI] at *;rw[<-e4,AQF] at h3 ⊢;split at h3
              · rename_i h5
                rw[if_pos h5,Fz];simp[ARU]
              · exact absurd rfl h3
            · exact absurd rfl h3)
           simp only[execOp,ho,hv];simp[hr]
         · cases h
       · cases h
     · cases h
   · cases h
 · cases h
end
end
section
theorem cZ {i:Int} {n:Nat} (h0:0<=i) (h1:i<n):i.toNat<n/\0<n:=by omega
theorem add_add (a:Addr) (n m:Nat):(a.add n).add m=a.add (n+m):=by
 unfold Addr.add;by_cases h:n=0
 · subst h;simp
 · by_cases k:m=0
   · subst k;simp
   · simp[h,k,ARU]
theorem cg {U0:Nat->Prop} {ν:Nat->Value} {L:Nat->Prop} {w:World} {ad:Addr} : ∀ {t:Ty} {x:T t} {off sz:Nat} {c:AC} {cs:List Value},Rd (Un U0 ν L) w t x cs->(∀i u,cs[i]? =some u->X8 (Un U0 ν L) w (λW=>W.cell? (ad.add i)=some u))->part t x off sz=some c->Cw U0 ν L w c (.pointer (some (ad.add off)))
 | .int k,x,off,sz,c,cs,hr,hc,h=>by
   simp only[part] at h;split at h
   · rename_i q;injection h with h;subst h;rw[q.1];exact⟨_,cs,rfl,hr,λi u hu=>by rw[add_add,ARx];exact hc i u hu⟩
   · cases h
 | .bool,x,off,sz,c,cs,hr,hc,h=>by
   simp only[part] at h;split at h
   · rename_i q;injection h with h;subst h;rw[q.1];exact⟨_,cs,rfl,hr,λi u hu=>by rw[add_add,ARx];exact hc i u hu⟩
   · cases h
 | .str,x,off,sz,c,cs,hr,hc,h=>by
   simp only[part] at h;split at h
   · rename_i q;injection h with h;subst h;rw[q.1];exact⟨_,cs,rfl,hr,λi u hu=>by rw[add_add,ARx];exact hc i u hu⟩
   · cases h
 | .row e t,x,off,sz,c,cs,hr,hc,h=>by
   simp only[part] at h;split at h
   · rename_i q;injection h with h;subst h;rw[q.1];exact⟨_,cs,rfl,hr,λi u hu=>by rw[add_add,ARx];exact hc i u hu⟩
   · cases h
 | .cons p q,x,off,sz,c,cs,hr,hc,h=>by
   simp only[part] at h;split at h
   · rename_i e;injection h with h;subst h;rw[e.1];exact⟨_,cs,rfl,hr,λi u hu=>by rw[add_add,ARx];exact hc i u hu⟩
   · obtain⟨c0,c1,rfl,h1,h2⟩:=hr
     have hl:c0.length=p.size:=(by rw[(kd p).EI h1.K,Fz]);split at h
     · exact cg h1 (λi u hu=>hc i u (by rw[AQg (APw.1 hu).1];exact hu)) h
     · have:=cg (ad:=ad.add p.size) h2 (λi u hu=>by
        rw[add_add];refine hc _ u ?_;rw[AQq (by omega),<-hu]
        congr 1;omega) h
       rw[add_add] at this
       rwa [show p.size+(off-p.size)=off by omega] at this
section
variable {P:Program} {Θ:Kb} {S:FuncId->Option FE} {k:Nat} {o:Oper} {U0:Nat->Prop} {ν:Nat->Value} {tm:List AV} {hp:List AB} {w0:St} {w:World} {a:Act} {R:Type} {K:AV->HC->Tree R} {r:R}
theorem RF {s:TypeId} {fs:Array Field} {gs:List (Nat × Nat)} {f off sz:Nat} {ad:Addr} (hu:P.underlying s=some (.struct fs)) (hg:fs.toList.map (λf=>(f.offset,((P.info? f.type).map (·.size)).getD 0))=gs) (hf:gs[f]? =some (off,sz)) (hz:sz≠0) :
 (Instr.fieldAt s (.pointer (some ad)) f).run P w= .ok (.pointer (some (ad.add off))) w:=by
 rw[<-hg,ARl] at hf;cases hq:fs.toList[f]? with
 | none=>rw[hq] at hf;cases hf
 | some fl =>
   rw[hq] at hf;simp only[ASk] at hf;injection hf with hf;injection hf with h1 h2;have hq':fs[f]? =some fl:=(by rw[<-hq];simp);cases hi:P.info? fl.type with
   | none=>rw[hi] at h2;exact absurd h2.symm hz
   | some i =>
     rw[hi] at h2;have h2:i.size=sz:=h2;have hs:(sizeOf fl.type).run P w= .ok sz w:=(by simp[sizeOf,typeInfo,hi,h2]);unfold Instr.fieldAt Instr.sureAddr fieldPlace;simp[run_underlying hu,hq',hs,hz,h1]
theorem mC (hΘ:Θ.ok P=true) (I:Inv U0 ν tm hp w0 a w) {s:TypeId} {x:Operand} {f:Nat} (ho:o.op= .fieldAddr s x f) (h:(stepT Θ S k tm hp o.dst (.fieldAddr s x f) K).run=some r):Cy P Θ S k o U0 ν tm hp w0 a w K r:=by
 simp only[stepT] at h;split at h
 · rename_i j off i hx hi
   split at h
   · rename_i fs hk
     split at h
     · rename_i off' sz hf
       split at h
       · cases h
       · rename_i hz
         obtain⟨_,d,_,hd,_,_,hB,_⟩:=Bc hΘ hi;rw[hk] at hB;obtain⟨fields,rfl,hg⟩:=Mz hB;obtain⟨hj,g,hν,hv⟩:=val_one (hx▸I.AW x);refine⟨_,_,h,Ah I (v:= .pointer (some ⟨g,off+off',none⟩)) ?_ (Ek ⟨hj,g,hν,rfl⟩)⟩;simp only[execOp,ho,hv];simp[RF hd hg hf hz,JA]
     · cases h
   · cases h
 · rename_i j q off z i hx hi
   split at h
   · rename_i fs hk
     split at h
     · rename_i off' sz hf
       split at h
       · cases h
       · rename_i hz
         obtain⟨_,d,_,hd,_,_,hB,_⟩:=Bc hΘ hi;rw[hk] at hB;obtain⟨fields,rfl,hg⟩:=Mz hB;obtain⟨hj,g,n,c,h1,h2,hv⟩:=val_one (hx▸I.AW x);refine⟨_,_,h,Ah I (v:= .pointer (some ⟨g,q.toNat*z+(off+off'),none⟩)) ?_ (Ek ⟨hj,g,n,c,h1,h2,rfl⟩)⟩;simp only[execOp,ho,hv];simp[RF hd hg hf hz,JA,ARU]
     · cases h
   · cases h
 · rename_i t y i hx hi
   split at h
   · rename_i fs hk
     split at h
     · rename_i off' sz hf
       split at h
       · cases h
       · rename_i hz
         split at h
         · rename_i c hc
           obtain⟨_,d,_,hd,_,_,hB,_⟩:=Bc hΘ hi;rw[hk] at hB;obtain⟨fields,rfl,hg⟩:=Mz hB;obtain⟨ad,cs,hv,h1,h2⟩:=val_one (hx▸I.AW x);refine⟨_,_,h,Ah I (v:= .pointer (some (ad.add off'))) ?_ (Ek (cg h1 h2 hc))⟩;simp only[execOp,ho,hv];simp[RF hd hg hf hz]
         · cases h
     · cases h
   · cases h
 · cases h
theorem qm (hΘ:Θ.ok P=true) {t e:TypeId} {q z:TI} {d sz n:Nat} {i:Int} {kk:IntKind} {x y:Operand} {ad:Addr} {c:Nat} (ho:o.op= .indexAddr t x y) (hq:ti Θ t=some q) (hk:q.kind= .slice e) (hz:ti Θ e=some z) (hsz:z.size=sz) (hx:a.eval x= .slice (some ad) n c) (hy:a.eval y= .int kk i) (h0:0<=i) (h1:i<n) :
 (execOp a.eval o).run P w= .ok (.value (.pointer (some (ad.add (i.toNat*sz))))) w:=by
 obtain⟨_,d,_,hd,_,_,hB,_⟩:=Bc hΘ hq;rw[hk] at hB;rw[KD hB] at hd;obtain⟨f',_,hf',_,hs',_⟩:=Bc hΘ hz;have hs:(sizeOf e).run P w= .ok sz w:=by simp[sizeOf,typeInfo,hf',hs',hsz]
 simp only[execOp,ho,hx,hy];have hc:(0:Int)<=i/\i<((n:Nat):Int):=⟨h0,h1⟩;simp[Instr.indexAt,asIntOf,run_underlying hd,hs,hc]
theorem qp (hΘ:Θ.ok P=true) (I:Inv U0 ν tm hp w0 a w) {t:TypeId} {x y:Operand} (ho:o.op= .indexAddr t x y) {q z:TI} {e:TypeId} {t':Ty} {xs:List (T t')} {kk:IntKind} {i:Int} (hq:ti Θ t=some q) (hk:q.kind= .slice e) (hz:ti Θ e=some z) (hsz:z.size=t'.size) (hx : ∃A c,a.eval x= .slice A (List.length xs) c/\Rd (Un U0 ν (lv hp)) w (.row e t') xs [a.eval x]) (hy:AW tm y= .val [.ro (.int kk) i]) (h0:0<=i) (h1:i<(List.length xs:Int)) :
 Goes P o U0 ν tm hp w0 a w (.val [.rel t' ((xs:List (T t')).getD (i:Int).toNat (dflt t'))]) H0:=by
 have hi:=GG (hy▸I.AW y);obtain⟨A,c,iD,hv⟩:=hx;obtain⟨A',c',AHJ,hlc,hm,hrow⟩:=hv;have AHJ:=(ARE AHJ).1;have hi0:=cZ h0 h1;obtain⟨ad,rfl,hel⟩:=hrow hi0.2;have G9:(xs:List (T t'))[(i:Int).toNat]? =some ((xs:List (T t')).getD (i:Int).toNat (dflt t')):=by
  rw[APt,AP4 hi0.1];rfl
 obtain⟨cs,q1,q2⟩:=hel _ _ G9;exact Ah I (v:= .pointer (some (ad.add ((i:Int).toNat*t'.size)))) (qm (d:=0) hΘ ho hq hk hz hsz AHJ hi h0 h1) (Ek ⟨_,cs,rfl,q1,λj u hu=>by rw[add_add];exact q2 j u hu⟩)
theorem AAQ (hΘ:Θ.ok P=true) {t e:TypeId} {q z:TI} {sz m:Nat} {i:Int} {kk:IntKind} {x y:Operand} {ad:Addr} (ho:o.op= .indexAddr t x y) (hq:ti Θ t=some q) (hk:q.kind= .arr m e) (hz:ti Θ e=some z) (hsz:z.size=sz) (hx:a.eval x= .pointer (some ad)) (hy:a.eval y= .int kk i) (h0:0<=i) (h1:i<m) :
 (execOp a.eval o).run P w= .ok (.value (.pointer (some (ad.add (i.toNat*sz))))) w:=by
 obtain⟨_,d,_,hd,_,_,hB,_⟩:=Bc hΘ hq;rw[hk] at hB;rw[cW hB] at hd;obtain⟨f',_,hf',_,hs',_⟩:=Bc hΘ hz;have hs:(sizeOf e).run P w= .ok sz w:=by simp[sizeOf,typeInfo,hf',hs',hsz]
 simp only[execOp,ho,hx,hy];have hc:(0:Int)<=i/\i<((m:Nat):Int):=⟨h0,h1⟩;simp[Instr.indexAt,Instr.sureAddr,asIntOf,run_underlying hd,hs,hc]
theorem mD (hΘ:Θ.ok P=true) (I:Inv U0 ν tm hp w0 a w) {t:TypeId} {x y:Operand} (ho:o.op= .indexAddr t x y) (h:(stepT Θ S k tm hp o.dst (.indexAddr t x y) K).run=some r):Cy P Θ S k o U0 ν tm hp w0 a w K r:=by
 simp only[stepT] at h;split at h
 · rename_i e t' xs kk i q hx hy hq
   split at h
   · rename_i e' hk
     split at h
     · rename_i z hz
       split at h
       · rename_i he
         obtain⟨rfl,hsz⟩:=he;obtain⟨h0,h⟩:=Tree.need h;obtain⟨h1,h⟩:=Tree.need h;have hv:=val_one (hx▸I.AW x);obtain⟨A,c,iD,hr⟩:=hv.2;exact⟨_,_,h,qp hΘ I ho hq hk hz hsz ⟨A,c,(ARE iD).1,A,c,iD,hr⟩ hy h0 h1⟩
       · cases h
     · cases h
   · cases h
 · rename_i j kk i q hx hy hq
   split at h
   · rename_i m e' hk
     split at h
     · rename_i z hz
       split at h
       · rename_i e t' xs hb
         split at h
         · rename_i hsz
           obtain⟨h0,h⟩:=Tree.need h;obtain⟨h1,h⟩:=Tree.need h;obtain⟨h2,h⟩:=Tree.need h;obtain⟨hj,g,n,c,hv,hv'⟩:=val_one (hx▸I.AW x);have hi:=GG (hy▸I.AW y);have hi0:=cZ h0 h2;have hn:n=List.length xs:=by
            obtain⟨⟨inner,h4,_⟩,_⟩:=I.mem j _ hb rfl;rcases h4.2 with⟨q1,_⟩ | ⟨g',cap,cur,q1,_⟩
            · rw[q1] at hv;cases hv
            · rw[q1] at hv;injection hv with _ hv _;exact hv.symm
           subst hn;refine⟨_,_,h,Ah I (AAQ hΘ ho hq hk hz hsz hv' hi h0 h1) (Ek ⟨hj,g,_,c,hv,⟨h0,hi0.1⟩,by rw[JA];simp⟩)⟩
         · cases h
       · cases h
     · cases h
   · cases h
 · rename_i j kk i q hx hy hq
   split at h
   · rename_i e' hk
     split at h
     · rename_i z hz
       split at h
       · rename_i e t' xs hb
         split at h
         · rename_i he
           obtain⟨rfl,hsz⟩:=he;obtain⟨h0,h⟩:=Tree.need h;obtain⟨h1,h⟩:=Tree.need h;obtain⟨hj,hv⟩:=val_one (hx▸I.AW x);have hi:=GG (hy▸I.AW y);have hi0:=cZ h0 h1;obtain⟨⟨inner,h4,h5⟩,_⟩:=I.mem j _ hb rfl;rcases h4.2 with⟨q1,q2⟩ | ⟨g,cap,cur,q1,q2,q3,q4,q5,q6,q7⟩
           · have:0<List.length xs:=hi0.2
             omega
           · have hv':a.eval x= .slice (some ⟨g,0,none⟩) (List.length xs) cap:=by rw[hv,q1];rfl
             refine⟨_,_,h,Ah I (qm (d:=0) hΘ ho hq hk hz hsz hv' hi h0 h1) (Ek ⟨hj,g,_,cap,by rw[q1];rfl,⟨h0,hi0.1⟩,by rw[JA];simp⟩)⟩
         · cases h
       · rename_i e t' xs hb
         split at h
         · rename_i he
           obtain⟨rfl,hsz⟩:=he;obtain⟨h0,h⟩:=Tree.need h;obtain⟨h1,h⟩:=Tree.need h;obtain⟨hj,hv⟩:=val_one (hx▸I.AW x);obtain⟨v,e1,hr⟩:=I.mem j _ hb rfl;have hv':a.eval x=v:=(by rw[hv,e1];rfl);subst hv';obtain⟨A,c,iD,hrr⟩:=hr;exact⟨_,_,h,qp hΘ I ho hq hk hz hsz ⟨A,c,(ARE iD).1,A,c,iD,hrr⟩ hy h0 h1⟩
         · cases h
       · cases h
     · cases h
   · cases h
 · cases h
theorem ABv {e:TypeId} {f:TypeInfo} {d:TypeDesc} {n off:Nat} {vs:List Value} (hf:P.info? e=some f) (hd:P.underlying e=some d) (hn:f.size=n) (ha:iC d=(n !=1)) (hl:off+n<=vs.length):(Go.part e vs.toArray off).run P w= .ok (O9 ((vs.drop off).take n)) w:=by
 unfold Go.part;simp only[Sem.run_bind,jZ hd,Result.andThen_ok,ha];by_cases h1:n=1
 · subst h1
   have hlt:off<vs.length:=(by omega);have e1:(vs.drop off).take 1= [vs[off]]:=by
    rw[AR7 hlt];rfl
   simp[e1,O9,hlt]
 · have hb:(n !=1)=true:=by simpa using h1
   have hs:(sizeOf e).run P w= .ok n w:=(by simp[sizeOf,typeInfo,hf,hn]);rw[cX (by rw[APx,AQR];omega)];simp[hb,hs]
theorem ABw (hΘ:Θ.ok P=true) (I:Inv U0 ν tm hp w0 a w) {t:TypeId} {x y:Operand} (ho:o.op= .index t x y) (h:(stepT Θ S k tm hp o.dst (.index t x y) K).run=some r):Cy P Θ S k o U0 ν tm hp w0 a w K r:=by
 simp only[stepT] at h;split at h
 · rename_i q hq
   split at h
   · rename_i hk
     split at h
     · rename_i s kk i hx hy
       obtain⟨h0,h⟩:=Tree.need h;obtain⟨h1,h⟩:=Tree.need h;obtain⟨_,d,_,hd,_,_,hB,_⟩:=Bc hΘ hq;rw[hk] at hB;rw[V8 hB] at hd;have hv:=cV (hx▸I.AW x);have hi:=GG (hy▸I.AW y);have hl:(i:Int).toNat<(s:ByteArray).size:=(cZ h0 h1).1;refine⟨_,_,h,Ah I (v:= .int .u8 (bt s i)) ?_ (Ib .u8 _)⟩;have h0':(0:Int)<=i:=h0;have hg:(s:ByteArray)[(i:Int).toNat]? =some ((s:ByteArray)[(i:Int).toNat]'hl):=(by simp[hl]);simp only[execOp,ho,hv,hi];simp[Instr.index,asIntOf,run_underlying hd,h0',bt,hl]
     · cases h
   · rename_i n e hk
     split at h
     · rename_i cs kk i z hx hy hz
       split at h
       · rename_i hc
         obtain⟨h0,h⟩:=Tree.need h;obtain⟨h1,h⟩:=Tree.need h;obtain⟨_,d,_,hd,_,_,hB,_⟩:=Bc hΘ hq;rw[hk] at hB;rw[cW hB] at hd;obtain⟨f',d',hf',hd',hs',_,_,ha',_⟩:=Bc hΘ hz;obtain⟨vs,e1,e2⟩:=(hx▸I.AW x:Gg U0 ν (lv hp) w (.val cs) (a.eval x));have hlen:=e2.len;have hv:a.eval x= .agg vs.toArray:=(by rw[e1];exact cX (by omega));have hi:=GG (hy▸I.AW y);have hi0:=cZ h0 h1;have hfit:(i:Int).toNat*z.size+z.size<=vs.length:=by
          rw[<-hlen,hc.1,<-AQh];exact AP8 _ hi0.1
         refine⟨_,_,h,Ah I (v:=O9 ((vs.drop ((i:Int).toNat*z.size)).take z.size)) ?_ ⟨_,rfl,(e2.drop _).take _⟩⟩;have hp:=ABv (P:=P) (w:=w) (vs:=vs) hf' hd' hs' ha' hfit;have hs:(sizeOf e).run P w= .ok z.size w:=(by simp[sizeOf,typeInfo,hf',hs']);have hcond:(0:Int)<=i/\(i:Int)<((n:Nat):Int):=⟨h0,h1⟩;simp only[execOp,ho,hv,hi];simp[Instr.index,asIntOf,run_underlying hd,hs,hcond,hp]
       · cases h
     · cases h
   · cases h
 · cases h
end
end
section
theorem GH {vs:List Value} (h : ∀v∈vs,v.oneCell'=true):(O9 vs).cells=vs.toArray:=by
 unfold O9;split
 · rename_i x
   have:=h x APq;cases x<;>first | rfl | simp[Value.oneCell'] at this
 · rfl
section
variable {P:Program} {Θ:Kb} {S:FuncId->Option FE} {k:Nat} {o:Oper} {U0:Nat->Prop} {ν:Nat->Value} {tm:List AV} {hp CH:List AB} {w0:St} {w:World} {a:Act} {R:Type} {K:AV->HC->Tree R} {r:R}
theorem Gg.cells (I:Inv U0 ν tm hp w0 a w) {cs:List AC} {v:Value} (h:Gg U0 ν (lv hp) w (.val cs) v) : ∃vs,v=O9 vs/\v.cells=vs.toArray/\CZ (Cw U0 ν (lv hp) w) cs vs/\ ∀u∈vs,u.oneCell'=true:=by
 obtain⟨vs,rfl,h2⟩:=h;have h1 : ∀u∈vs,u.oneCell'=true:=λu hu=>by
  obtain⟨c,_,hr⟩:=h2.mem u hu;exact hr.one I.l5
 exact⟨vs,rfl,GH h1,h2,h1⟩
theorem PG {t:Tmp} {b:AB} {l:List (Nat × AB)} (h:hok (some t) hp ⟨some b,l⟩=true):hp[t]? =some .gone/\Ej b=false/\True:=by
 unfold hok at h;simp only[APz,ARG,AQX] at h;obtain⟨⟨h1,h2⟩,h3⟩:=h;refine⟨?_,h2,trivial⟩;split at h1
 · assumption
 · cases h1
theorem EU {hp:List AB} {t:Nat} {b:AB} (h:hp[t]? =some .gone) (hb:Ej b=false):(∀j,lv (hp.set t b) j↔lv hp j\/j=t)/\ ¬lv hp t:=by
 have hlt:=(APw.1 h).1;refine⟨λj=> ?_,λ⟨b',q1,q2⟩=>by rw[h] at q1;injection q1 with q1;subst q1;cases q2⟩;unfold lv;by_cases hj:t=j
 · subst hj
   exact⟨λ_=> .inr rfl,λ_=>⟨b,by simp[hlt],hb⟩⟩
 · rw[AQE hj]
   exact⟨.inl,λq=>q.resolve_right λz=>hj z.symm⟩
theorem Inv.new (I:Inv U0 ν tm hp w0 a w) (hU : ∀q,U0 q->q<w0.heap.size) {t:Tmp} {b:AB} {u v:Value} {x:AV} {w':World} (hg:hp[t]? =some .gone) (hb:Ej b=false)
 (hs:w.heap.size<=w'.heap.size) (hk : ∀k,k<w.heap.size->w'.heap[k]? =w.heap[k]?) (hu : ∀k,DO u=some k->w.heap.size<=k)
 (hF:Since w0 w') (hB:Move (Un U0 ν (lv hp)) w w' (Un U0 (upd ν t u) (lv (hp.set t b)))->(∀j,lv hp j->lv (hp.set t b) j/\Kp ν (upd ν t u) j)->Tn U0 (upd ν t u) (lv (hp.set t b)) w0 w' t b/\Gg U0 (upd ν t u) (lv (hp.set t b)) w' x v) (d:Option Tmp) :
 Inv U0 (upd ν t u) (Mr tm d x) (hp.set t b) w0 (a.put d v) w':=by
 have hlt:=(APw.1 hg).1;obtain⟨hlv,hnt⟩:=EU hg hb;have hne : ∀j,lv hp j->j≠t:=λj hj q=>hnt (q▸hj)
 have hL : ∀j,lv hp j->lv (hp.set t b) j/\Kp ν (upd ν t u) j:=λj hj=>⟨(hlv j).2 (.inl hj), .inl (Gh (hne j hj))⟩
 have m:Move (Un U0 ν (lv hp)) w w' (Un U0 (upd ν t u) (lv (hp.set t b))):=by
  refine⟨hs,λq hq _=>hk q hq,λq hq hun=> ?_⟩;rcases hun with hun | ⟨j,hj,cN⟩
  · exact .inl hun
  · rcases(hlv j).1 hj with hj | hj
    · rw[Gh (hne j hj)] at cN;exact .inr ⟨j,hj,cN⟩
    · subst hj
      rw[Bb] at cN;have:=hu q cN;omega
 obtain⟨hBt,hx⟩:=hB m hL;refine I.put d x v m hL hx (λj b' h1 h2=> ?_) (λi j hij hi hj q h1 h2=> ?_) hF (I.fx.ABh λj b' h1 h2=> ?_)
 · by_cases hjt:t=j
   · subst hjt
     rw[AQe hlt] at h1;injection h1 with h1;subst h1;exact hBt
   · rw[AQE hjt] at h1
     exact(I.mem j b' h1 h2).move m hL (Gh λz=>hjt z.symm) (λq hq=>hk q (I.lt ⟨b',h1,h2⟩ hq).1)
 · rcases(hlv i).1 hi with hi' | hi'
   · rw[Gh (hne i hi')] at h1
     rcases(hlv j).1 hj with hj' | hj'
     · rw[Gh (hne j hj')] at h2
       exact I.uo i j hij hi' hj' q h1 h2
     · subst hj'
       rw[Bb] at h2;have:=(I.lt hi' h1).1;have:=hu q h2;omega
   · subst hi'
     rw[Bb] at h1;have:=hu q h1;rcases(hlv j).1 hj with hj' | hj'
     · rw[Gh (hne j hj')] at h2
       have:=(I.lt hj' h2).1;omega
     · exact hij hj'.symm
 · have hne:j≠t:=by
    rintro rfl;rw[hg] at h1;injection h1 with h1;subst h1;cases h2
   exact⟨Gh hne,b',by rw[AQE (ASz hne)];exact h1,h2⟩
theorem Since.alloc {s:St} {w:World} (h:Since s w) (o:Obj):Since s (w.alloc o):=h.step ((Below.refl _ w).alloc (AP1 _) _)
theorem qq (I:Inv U0 ν tm hp w0 a w) (hU : ∀q,U0 q->q<w0.heap.size) {t:Tmp} (hd:o.dst=some t) {e:TypeId} {cs:List AC} {vs:List Value} (hcs:CZ (Cw U0 ν (lv hp) w) cs vs)
 (hrun:(execOp a.eval o).run P w= .ok (.value (.pointer (some ⟨w.heap.size,0,none⟩))) (w.alloc (.cells vs.toArray e (0,0)))):Goes P o U0 ν tm hp w0 a w (.val [.ptr t 0]) ⟨some (.cells .mine e cs),[]⟩:=by
 intro hh next Q h
 unfold Oper.wp;rw[hrun];rw[hd] at hh h;show next (a.put o.dst _) _
 rw[hd];obtain⟨hg,hb,_⟩:=PG hh;refine h (upd ν t (.pointer (some ⟨w.heap.size,0,none⟩))) _ _ (I.new hU hg hb (by simp) (λq hq=>Below.heap_alloc _ _ _ hq) (λk hk=> ?_) (I.fr.alloc _) (λm hL=> ?_) _)
 · injection hk with hk
   have hk:w.heap.size=k:=hk;omega
 · refine⟨⟨w.heap.size,vs,Bb,LO.new I.fr.size,heap_alloc_new w _,hcs.imp λ_ _ h=>Cw.move m hL h⟩,Ek (c:= .ptr t 0) (show Cw _ _ _ _ (.ptr t 0) _ from⟨((EU hg hb).1 t).2 (.inr rfl),_,Bb,rfl⟩)⟩
theorem AAR (hΘ:Θ.ok P=true) (I:Inv U0 ν tm hp w0 a w) (hU : ∀q,U0 q->q<w0.heap.size) {e:TypeId} (ho:o.op= .alloc e) {i:TI} {t:Tmp} (hi:ti Θ e=some i) (hd:o.dst=some t) (h:(K (.val [.ptr t 0]) ⟨some (.cells .mine e i.zero),[]⟩).run=some r):Cy P Θ S k o U0 ν tm hp w0 a w K r:=by
 obtain⟨f,d,hf,_,_,_,_,_,_,z,hz,qC⟩:=Bc hΘ hi;have hr:CZ (Cw U0 ν (lv hp) w) i.zero z:=Lj qC;have h4 : ∀u∈z,u.oneCell'=true:=λu hu=>by
  obtain⟨c,_,hr⟩:=hr.mem u hu;exact hr.one I.l5
 refine⟨_,_,h,qq I hU hd hr ?_⟩;have hzv:(zeroValue e).run P w= .ok (O9 z) w:=by simp[zeroValue,typeInfo,hf,hz]
 simp only[execOp,ho];simp[Instr.alloc,hzv,newVar,newRow,GH h4]
end
end
end Go.Proofs.YtjocbnjpjihpnaaGreatW.HU
end
