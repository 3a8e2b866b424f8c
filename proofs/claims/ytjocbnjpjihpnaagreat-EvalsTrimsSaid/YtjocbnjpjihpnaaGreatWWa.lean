/- Words for walks over printed functions: those that are used here, as a program has laid them. -/
import Derived.Below
import Derived.Deep.Draws
import Derived.Deep.AppendLies
import Derived.Maps.AppendAt
import Derived.OwnWalk
import Derived.Laws.BytesArg
import Derived.Laws.MakeOwn
import Derived.Laws.OwnMore
import Derived.Deep.OwnRows
import Derived.Tactics
import Derived.Lib.ConvBytes
import Derived.Laws.Slices
import Derived.WalkKit
import Derived.KernelRfl
import Derived.RowKit3
import Derived.Deep.LoopGhost
import Derived.Deep.QuietTactic
import Derived.BigQuiet
import Derived.WideLaws
import Derived.Deep.DeepCutAuto
import Derived.Deep.CutBlock
import Derived.Deep.RegionHeld3
import Derived.Laws.Rows
import Derived.Lib.AppendStr
import Derived.ArgAppend
import Derived.Laws.IdiomCopy
import Derived.RowKit
import Derived.OrdersHeld
import Derived.Laws.BitsLemmas
import Derived.Laws.StructEq
import Derived.SizedLaws
import Derived.ChangeSlices
section
set_option linter.unusedVariables false
set_option linter.unusedSimpArgs false
namespace Go.Proofs.YtjocbnjpjihpnaaGreatW.PrintWords
open Go.RowKit

structure Aside0 (p:Prop):Prop where mk::(out:p)
structure Drawn0 (w w':World):Prop where mk::(out : ∃ n,w'=w.drewN n)
theorem Drawn0.refl (w:World):Drawn0 w w:=⟨⟨0,rfl⟩⟩
theorem Drawn0.step {w w':World} (h:Drawn0 w w') (n:Nat):Drawn0 w (w'.drewN n):=by
 obtain ⟨m,rfl⟩:=h
 exact ⟨⟨m+n,World.drewN_drewN ..⟩⟩
theorem Drawn0.grown {w w':World} (h:Drawn0 w w'):Grown w w':=by
 obtain ⟨n,rfl⟩:=h
 induction n with
 | zero=>exact Grown.refl _
 | succ n ih=>rw [← World.drew_drewN];exact Grown.drew ih
theorem Drawn0.below {w w':World} (h:Drawn0 w w'):Below w.heap.size w w':=by
 obtain ⟨n,rfl⟩:=h
 induction n with
 | zero=>exact Below.refl _ _
 | succ n ih=>rw [← World.drew_drewN];exact ih.drew


def rd (xs:List Int) (i:Int):Int:=xs.getD i.toNat 0
def bt (s:ByteArray) (i:Int):Int:=if h:i.toNat<s.size then ((s[i.toNat]'h).toNat:Int) else 0
theorem below_alloc {w W:World} (h:Below w.heap.size w W) (o:Obj):Below w.heap.size w (W.alloc o):=h.alloc h.size o
theorem below_drew {B:Nat} {w W:World} (h:Below B w W):Below B w W.drew:=⟨h.os,h.tape,h.output,h.size,h.block⟩
theorem pw_below_drewN {B:Nat} {w W:World} (h:Below B w W) (n:Nat):Below B w (W.drewN n):=⟨h.os,h.tape,h.output,h.size,h.block⟩
theorem below_then {B:Nat} {w w1 w2:World} (h:Below B w w1) (hB:B≤w1.heap.size) (k:Below w1.heap.size w1 w2):Below B w w2 :=
 h.trans ⟨k.os,k.tape,k.output,k.size,fun i hi=>k.block i (Nat.lt_of_lt_of_le hi hB)⟩
theorem grown_of_below {w w1:World} (h:Below w.heap.size w w1) (row:Option Nat):w.grownBy w1 row:=⟨h.os,h.tape,h.output,h.size,fun i hi _=>h.block i hi⟩
theorem pw_cell_below {w w1:World} (h:Below w.heap.size w w1) {a:Addr} {v:Value} (hc:w.cell? a=some v):w1.cell? a=some v:=(h.cell (World.block_lt_of_cell? w a hc)).trans hc

def ReadsInt (w:World) (k:IntKind) (A:Option Addr) (n:Nat) (xs:List Int):Prop :=
 xs.length=n∧n≤9223372036854775807∧(0<n→ ∃ ad,A=some ad∧ ∀ j,j<n→w.cell? (ad.add j)=some (.int k (xs.getD j 0)))
theorem ReadsInt.at_ {w:World} {k:IntKind} {A:Option Addr} {n:Nat} {xs:List Int} (h:ReadsInt w k A n xs) (i:Int) (h0:0≤i) (h1:i<n) : ∃ ad,A=some ad∧w.cell? (ad.add i.toNat)=some (.int k (rd xs i)):=by
 obtain ⟨ad,e,hc⟩:=h.2.2 (by omega)
 exact ⟨ad,e,hc _ (by omega)⟩
theorem ReadsInt.below {w w1:World} {k:IntKind} {A:Option Addr} {n:Nat} {xs:List Int} (h:ReadsInt w k A n xs) (hb:Below w.heap.size w w1):ReadsInt w1 k A n xs :=
 ⟨h.1,h.2.1,fun hn=>by
   obtain ⟨ad,e,hc⟩:=h.2.2 hn
   exact ⟨ad,e,fun j hj=>pw_cell_below hb (hc j hj)⟩⟩

theorem own_base {w:World} {base:Nat} {e:TypeId} {size n:Nat} {v:Value} {xs:List Value} (h:w.ownsRow base e size v n xs) (k:Nat) (hk:v.ownBlock=some k):base≤k:=by
 rcases h.2 with ⟨rfl,_⟩ | ⟨g,cap,cur,rfl,hb,_⟩
 · simp [Value.ownBlock] at hk
 · have:g=k:=by simpa [Value.ownBlock] using hk
   omega
theorem own_lt {w:World} {base:Nat} {e:TypeId} {size n:Nat} {v:Value} {xs:List Value} (h:w.ownsRow base e size v n xs) (k:Nat) (hk:v.ownBlock=some k):k<w.heap.size:=by
 rcases h.2 with ⟨rfl,_⟩ | ⟨g,cap,cur,rfl,hb,hh,_⟩
 · simp [Value.ownBlock] at hk
 · have:g=k:=by simpa [Value.ownBlock] using hk
   subst this
   exact (Array.getElem?_eq_some_iff.1 hh).1
theorem pw_own_below {w w1:World} {base:Nat} {e:TypeId} {size n:Nat} {v:Value} {xs:List Value} (h:w.ownsRow base e size v n xs) (hb:Below w.heap.size w w1):w1.ownsRow base e size v n xs :=
 h.kept (grown_of_below hb none) (by cases v.ownBlock<;>simp)
theorem own_other {w w1:World} {base:Nat} {e:TypeId} {size n:Nat} {v:Value} {xs:List Value} (h:w.ownsRow base e size v n xs) {row:Option Nat} (hg:w.grownBy w1 row) (hne:v.ownBlock=none∨v.ownBlock≠row):w1.ownsRow base e size v n xs:=h.kept hg hne
theorem own_slice {w:World} {base n:Nat} {e:TypeId} {size:Nat} {v:Value} {xs:List Value} (h:w.ownsRow base e size v n xs) : ∃ A c,v= .slice A n c:=by
 rcases h.2 with ⟨rfl,rfl⟩ | ⟨g,cap,cur,rfl,_⟩
 · exact ⟨none,0,rfl⟩
 · exact ⟨_,cap,rfl⟩
section
variable {P:Program} {ops:Array Oper} {rest:List Oper} {o:Oper} {a:Act} {Q:Exit→Act→World→Prop}

end

section
variable {P:Program}
end
section
variable {P:Program} {ops:Array Oper} {rest:List Oper} {o:Oper} {a:Act} {Q:Exit→Act→World→Prop}
end

theorem ReadsInt.take_ {w:World} {k:IntKind} {A:Option Addr} {n:Nat} {xs:List Int} (h:ReadsInt w k A n xs) (i:Nat) (hi:i≤n):ReadsInt w k A i (xs.take i):=by
 refine ⟨by rw [List.length_take,h.1];omega,by have:=h.2.1;omega,fun hp=> ?_⟩
 obtain ⟨ad,e,hc⟩:=h.2.2 (by omega)
 refine ⟨ad,e,fun j hj=> ?_⟩
 rw [hc j (by omega)]
 simp [List.getD_eq_getElem?_getD,hj]
def LeO {α:Type} (a b:Option α):Prop:= ∀ r,a=some r→b=some r
theorem LeO.refl {α:Type} (a:Option α):LeO a a:=fun _ h=>h
theorem LeO.none {α:Type} (b:Option α):LeO Option.none b:=fun _ h=>by cases h
theorem LeO.trans {α:Type} {a b c:Option α} (h:LeO a b) (k:LeO b c):LeO a c:=fun r hr=>k r (h r hr)
theorem LeO.ite {α:Type} {c:Prop} [Decidable c] {a a' b b':Option α} (h:LeO a a') (k:LeO b b'):LeO (if c then a else b) (if c then a' else b'):=by
 split
 · exact h
 · exact k
theorem LeO.bind {α β:Type} {a a':Option α} {f f':α→Option β} (h:LeO a a') (k : ∀ x,LeO (f x) (f' x)):LeO (a.bind f) (a'.bind f'):=by
 intro r hr
 obtain ⟨x,hx,hf⟩:=Option.bind_eq_some_iff.1 hr
 exact Option.bind_eq_some_iff.2 ⟨x,h x hx,k x r hf⟩
theorem LeO.map {α β:Type} {a a':Option α} (f:α→β) (h:LeO a a'):LeO (a.map f) (a'.map f):=by
 intro r hr
 obtain ⟨x,hx,hf⟩:=Option.map_eq_some_iff.1 hr
 exact Option.map_eq_some_iff.2 ⟨x,h x hx,hf⟩
theorem more_rounds {α:Type} {g:Nat→Option α} (h : ∀ k,LeO (g k) (g (k+1))) (k:Nat) : ∀ j,LeO (g k) (g (k+j))
 | 0=>LeO.refl _
 | j+1=>(more_rounds h k j).trans (h (k+j))
theorem at_rounds {α:Type} {g:Nat→Option α} (h : ∀ k,LeO (g k) (g (k+1))) {k k':Nat} (hk:k≤k') {r:α} (hr:g k=some r):g k'=some r:=by
 have:=more_rounds h k (k'-k) r hr
 rwa [Nat.add_sub_cancel' hk] at this
theorem together {α β:Type} {g:Nat→Option α} {f:Nat→Option β} (hg : ∀ k,LeO (g k) (g (k+1))) (hf : ∀ k,LeO (f k) (f (k+1))) {r:α} {q:β} (h : ∃ k,g k=some r) (h' : ∃ k,f k=some q) : ∃ k,g k=some r∧f k=some q:=by
 obtain ⟨k,hk⟩:=h
 obtain ⟨k',hk'⟩:=h'
 exact ⟨max k k',at_rounds hg (Nat.le_max_left _ _) hk,at_rounds hf (Nat.le_max_right _ _) hk'⟩
def Reps {α:Type} (R:α→List Value→Prop) (size:Nat) (ps:List α) (cs:List Value):Prop :=
 cs.length=ps.length*size∧ ∀ j p,ps[j]? =some p→R p ((cs.drop (j*size)).take size)
theorem Reps.none {α:Type} (R:α→List Value→Prop) (size:Nat):Reps R size [] []:=⟨by simp,fun j p h=>by simp at h⟩
theorem Reps.snoc {α:Type} {R:α→List Value→Prop} {size:Nat} {ps:List α} {cs c:List Value} {p:α} (h:Reps R size ps cs) (hp:R p c) (hc:c.length=size):Reps R size (ps++ [p]) (cs++c):=by
 refine ⟨by rw [List.length_append,h.1,hc,List.length_append,List.length_singleton,Nat.add_mul,Nat.one_mul],fun j q hq=> ?_⟩
 rcases Nat.lt_or_ge j ps.length with hj | hj
 · rw [List.getElem?_append_left hj] at hq
   have h1:j*size+size≤cs.length:=by rw [h.1,← Nat.succ_mul];exact Nat.mul_le_mul_right _ hj
   have h2:=h.2 j q hq
   rw [List.drop_append_of_le_length (by omega),List.take_append_of_le_length (by rw [List.length_drop];omega)]
   exact h2
 · have hj':j=ps.length:=by
    have:=(List.getElem?_eq_some_iff.1 hq).1
    rw [List.length_append,List.length_singleton] at this
    omega
   subst hj'
   have hq':p=q:=by simpa using hq
   subst hq'
   rw [← h.1,List.drop_left,← hc,List.take_length]
   exact hp
theorem Reps.imp_ {α:Type} {R R':α→List Value→Prop} {size:Nat} {ps:List α} {cs:List Value} (h:Reps R size ps cs) (hR : ∀ p c,R p c→R' p c):Reps R' size ps cs:=⟨h.1,fun j p hj=>hR _ _ (h.2 j p hj)⟩

def ReadsRow {α:Type} (R:α→List Value→Prop) (size:Nat) (w:World) (A:Option Addr) (n:Nat) (ps:List α):Prop :=
 ps.length=n∧n≤9223372036854775807∧(0<n→ ∃ ad,A=some ad∧ ∀ j p,ps[j]? =some p→ ∃ c,c.length=size∧R p c∧ ∀ i u,c[i]? =some u→w.cell? (ad.add (j*size+i))=some u)
theorem ReadsRow.imp_ {α:Type} {R R':α→List Value→Prop} {size:Nat} {w w1:World} {A:Option Addr} {n:Nat} {ps:List α} (h:ReadsRow R size w A n ps) (hb:Below w.heap.size w w1) (hR : ∀ p c,R p c→R' p c):ReadsRow R' size w1 A n ps :=
 ⟨h.1,h.2.1,fun hn=>by
   obtain ⟨ad,e,hc⟩:=h.2.2 hn
   refine ⟨ad,e,fun j p hj=> ?_⟩
   obtain ⟨c,hs,hr,hcell⟩:=hc j p hj
   exact ⟨c,hs,hR _ _ hr,fun i u hu=>pw_cell_below hb (hcell i u hu)⟩⟩
theorem own_reads_row {α:Type} {R:α→List Value→Prop} {w:World} {base n size:Nat} {e:TypeId} {v:Value} {ps:List α} {cs:List Value} (h:w.ownsRow base e size v n cs) (hR:Reps R size ps cs) (hn:ps.length=n) :
 ∃ A c,v= .slice A n c∧ReadsRow R size w A n ps:=by
 rcases Nat.eq_zero_or_pos n with h0 | h0
 · rcases h.2 with ⟨rfl,rfl⟩ | ⟨g,cap,cur,rfl,_⟩
   · exact ⟨none,0,rfl,hn,by omega,fun hp=>absurd hp (by omega)⟩
   · exact ⟨_,cap,rfl,hn,by omega,fun hp=>absurd hp (by omega)⟩
 · obtain ⟨g,cap,rfl,_,_⟩:=h.form h0
   have hm:n≤9223372036854775807:=by
    rcases h.2 with ⟨_,h1⟩ | ⟨g',cap',cur,he,_,_,h1,h2,_⟩
    · omega
    · simp only [maxLen] at h2
      omega
   refine ⟨_,cap,rfl,hn,hm,fun _=>⟨_,rfl,fun j p hj=>⟨(cs.drop (j*size)).take size, ?_,hR.2 j p hj,fun i u hu=> ?_⟩⟩⟩
   · have hjl:=(List.getElem?_eq_some_iff.1 hj).1
     have h1:j*size+size≤cs.length:=by rw [hR.1,← Nat.succ_mul];exact Nat.mul_le_mul_right _ hjl
     rw [List.length_take,List.length_drop]
     omega
   · refine h.cells (g:=g) rfl _ u ?_
     rw [List.getElem?_take] at hu
     split at hu
     · rw [List.getElem?_drop] at hu
       exact hu
     · cases hu
section
variable {P:Program} {ops:Array Oper} {rest:List Oper} {o:Oper} {a:Act} {Q:Exit→Act→World→Prop}
theorem print_append_cells {w0 W:World} (base:Nat) (hgd:o.guard=none) (s x:Operand) (t e:TypeId) (z:Value) (size bytes:Nat)
 (ho:o.op= .call {callee:= .builtin .append,args:= #[s,x],argTypes:= #[t,t]})
 (ht:P.underlying t=some (.slice e)) (hinfo:(P.info? e).map (fun i=>(i.zero,i.size,i.bytes))=some (some z,size,bytes)) (hz:z.cells.size=size) (hs0:0<size) (hb0:0<bytes)
 (v:Value) (n:Nat) (xs ys:List Value) (hs:a.eval s=v) (hx:a.eval x= .slice (some ⟨W.heap.size,0,none⟩) 1 1) (hys:ys.length=size) (h1 : ∀ u∈ys,u.oneCell'=true)
 (HO:W.ownsRow base e size v n xs) (HB:Below base w0 W) (hbase:base≤W.heap.size) (hl:(n+1)*bytes≤140737488355328)
 (h : ∀ v1 w1,w1.ownsRow base e size v1 (n+1) (xs++ys)→Below base w0 w1→W.grownBy w1 v.ownBlock→(v1.ownBlock=v.ownBlock∨ ∃ b,v1.ownBlock=some b∧W.heap.size≤b)→wpList P ops Q rest (a.put o.dst v1) w1) :
 wpList P ops Q (o::rest) a (W.alloc (.cells ys.toArray e)):=by
 obtain ⟨i0,hi,hzz⟩:=Option.map_eq_some_iff.1 hinfo
 simp only [Prod.mk.injEq] at hzz
 obtain ⟨hz0,hz1,hz2⟩:=hzz
 have hlen:n+1≤140737488355328:=Nat.le_trans (Nat.le_mul_of_pos_right _ hb0) hl
 refine wpList_append_own_at (W.alloc (.cells ys.toArray e)) hgd s x t ho base e i0 z size bytes ht hi hz0 hz1 hz2 hz hs0 v n xs hs (HO.alloc _) ⟨W.heap.size,0,none⟩ 1 1 ys hx (by rw [hys];simp)
  (by simpa using World.news_of_block (cs:=ys.toArray) (t:=e) (fr:=(0,0)) (heap_alloc_new W (.cells ys.toArray e))) h1 (by simp only [maxLen];omega) hl (by simp;omega) ?_
 intro v1 w1 hown hg _ hat
 refine h v1 w1 hown ((HB.alloc hbase _).grown hg (by simp;omega) (own_base HO)) (World.grownBy.trans (World.grownBy_alloc W _ _) hg) ?_
 rcases hat with hat | hat
 · exact .inl hat
 · exact .inr ⟨_,hat,by simp⟩
end

theorem own_ne {w:World} {base:Nat} {e t:TypeId} {size n g:Nat} {v:Value} {xs:List Value} {cs:Array Value} (h:w.ownsRow base e size v n xs) (hg:w.heap[g]? =some (.cells cs t (0,0))) (hne:e≠t):some g≠v.ownBlock:=by
 rcases h.2 with ⟨rfl,_⟩ | ⟨g',cap,cur,rfl,_,hh,_⟩
 · simp [Value.ownBlock]
 · intro he
   have:g=g':=by simpa [Value.ownBlock] using he
   subst this
   rw [hg] at hh
   injection hh with hh
   injection hh with _ ht
   exact hne ht.symm
theorem blk_set {w:World} {g:Nat} {t:TypeId} {cs:Array Value} (h:w.heap[g]? =some (.cells cs t (0,0))) (i:Nat) (u:Value):(w.setCell ⟨g,i,none⟩ u).heap[g]? =some (.cells (cs.setIfInBounds i u) t (0,0)):=by
 simp [World.setCell,Array.getElem?_modify,h]
theorem blk_lt {w:World} {g:Nat} {o:Obj} (h:w.heap[g]? =some o):g<w.heap.size:=(Array.getElem?_eq_some_iff.1 h).1
theorem blk_cell {w:World} {g:Nat} {t:TypeId} {cs:Array Value} (h:w.heap[g]? =some (.cells cs t (0,0))) (i:Nat):w.cell? ⟨g,i,none⟩=cs[i]? :=cell_of_row w g i cs t (0,0) h
theorem blk_frozen {w:World} {g:Nat} {t:TypeId} {cs:Array Value} (h:w.heap[g]? =some (.cells cs t (0,0))) (i:Nat):w.frozen? ⟨g,i,none⟩=false:=by simp [World.frozen?,h]
def KeepBut (w w':World) (g:Nat) (row:Option Nat):Prop:=w.heap.size≤w'.heap.size∧ ∀ i,i<w.heap.size→i≠g→some i≠row→w'.heap[i]? =w.heap[i]?
theorem KeepBut.refl (w:World) (g:Nat) (row:Option Nat):KeepBut w w g row:=⟨Nat.le_refl _,fun _ _ _ _=>rfl⟩
theorem KeepBut.of_below {w w1:World} (h:Below w.heap.size w w1) (g:Nat) (row:Option Nat):KeepBut w w1 g row:=⟨h.size,fun i hi _ _=>h.block i hi⟩
theorem KeepBut.trans {w w1 w2:World} {g:Nat} {row row1:Option Nat} (h:KeepBut w w1 g row) (k:KeepBut w1 w2 g row1) (hr:row1=row∨ ∃ b,row1=some b∧w.heap.size≤b):KeepBut w w2 g row :=
 ⟨Nat.le_trans h.1 k.1,fun i hi hg hn=>by
   refine (k.2 i (Nat.lt_of_lt_of_le hi h.1) hg ?_).trans (h.2 i hi hg hn)
   rcases hr with rfl | ⟨b,rfl,hb⟩
   · exact hn
   · intro e
     injection e with e
     omega⟩
theorem KeepBut.blk {w w1:World} {g g':Nat} {row:Option Nat} {o:Obj} (h:KeepBut w w1 g row) (hb:w.heap[g']? =some o) (hg:g'≠g) (hr:some g'≠row):w1.heap[g']? =some o:=(h.2 g' (blk_lt hb) hg hr).trans hb
theorem KeepBut.own {w w1:World} {g:Nat} {row:Option Nat} {base:Nat} {e:TypeId} {size n:Nat} {v:Value} {xs:List Value} (h:KeepBut w w1 g row) (ho:w.ownsRow base e size v n xs) (hg:v.ownBlock≠some g) (hr:v.ownBlock=none∨v.ownBlock≠row):w1.ownsRow base e size v n xs:=by
 obtain ⟨h1,h2⟩:=ho
 refine ⟨h1, ?_⟩
 rcases h2 with h2 | ⟨b,cap,cur,rfl,hb,hh,r⟩
 · exact .inl h2
 · refine .inr ⟨b,cap,cur,rfl,hb,h.blk hh ?_ ?_,r⟩
   · intro e
     exact hg (by rw [← e];rfl)
   · rcases hr with hr | hr
     · simp [Value.ownBlock] at hr
     · exact hr
def Ev {α:Type} (g:Nat→Option α) (r:α):Prop:= ∃ K,∀ k,K≤k→g k=some r
theorem Ev.of {α:Type} {g:Nat→Option α} {r:α} (hg : ∀ k,LeO (g k) (g (k+1))) {k:Nat} (h:g k=some r):Ev g r:=⟨k,fun _ hk=>at_rounds hg hk h⟩
theorem Ev.now {α:Type} (r:α):Ev (fun _=>some r) r:=⟨0,fun _ _=>rfl⟩
theorem Ev.rounds {α:Type} {g:Nat→Option α} {r:α} (h:Ev g r) : ∃ k,g k=some r:=by
 obtain ⟨K,h⟩:=h
 exact ⟨K,h K (Nat.le_refl _)⟩
theorem Ev.bind {α β:Type} {g:Nat→Option α} {f:Nat→α→Option β} {a:α} {r:β} (h:Ev g a) (k:Ev (fun n=>f n a) r):Ev (fun n=>(g n).bind (f n)) r:=by
 obtain ⟨K,h⟩:=h
 obtain ⟨K',k⟩:=k
 refine ⟨max K K',fun n hn=> ?_⟩
 have h1:=h n (by omega)
 have h2:=k n (by omega)
 simp only [h1,Option.bind_some]
 exact h2
theorem Ev.step {α:Type} {g f:Nat→Option α} {r:α} (h : ∀ k,g (k+1)=f k) (k:Ev f r):Ev g r:=by
 obtain ⟨K,k⟩:=k
 refine ⟨K+1,fun n hn=> ?_⟩
 obtain ⟨m,rfl⟩ : ∃ m,n=m+1:=⟨n-1,by omega⟩
 rw [h]
 exact k m (by omega)
theorem Ev.congr {α:Type} {g f:Nat→Option α} {r:α} (h : ∀ k,g k=f k) (k:Ev f r):Ev g r:=by
 obtain ⟨K,k⟩:=k
 exact ⟨K,fun n hn=>(h n).trans (k n hn)⟩
section
variable {P:Program} {ops:Array Oper} {o:Oper} {a:Act} {Q:Exit→Act→World→Prop} {K:Act→World→Prop}
end
theorem own_weaken {w:World} {base base':Nat} {e:TypeId} {size n:Nat} {v:Value} {xs:List Value} (h:w.ownsRow base e size v n xs) (hb:base'≤base):w.ownsRow base' e size v n xs:=by
 obtain ⟨h1,h2⟩:=h
 refine ⟨h1, ?_⟩
 rcases h2 with h2 | ⟨g,cap,cur,rfl,hg,r⟩
 · exact .inl h2
 · exact .inr ⟨g,cap,cur,rfl,Nat.le_trans hb hg,r⟩
section
variable {α:Type} {enc:α→Value} {d:α}
def rdOf (d:α) (xs:List α) (i:Int):α:=xs.getD i.toNat d
def ReadsOf (enc:α→Value) (d:α) (w:World) (A:Option Addr) (n:Nat) (xs:List α):Prop :=
 xs.length=n∧n≤9223372036854775807∧(0<n→ ∃ ad,A=some ad∧ ∀ j,j<n→w.cell? (ad.add j)=some (enc (xs.getD j d)))
theorem ReadsOf.at_ {w:World} {A:Option Addr} {n:Nat} {xs:List α} (h:ReadsOf enc d w A n xs) (i:Int) (h0:0≤i) (h1:i<n) : ∃ ad,A=some ad∧w.cell? (ad.add i.toNat)=some (enc (rdOf d xs i)):=by
 obtain ⟨ad,e,hc⟩:=h.2.2 (by omega)
 exact ⟨ad,e,hc _ (by omega)⟩
theorem ReadsOf.below {w w1:World} {A:Option Addr} {n:Nat} {xs:List α} (h:ReadsOf enc d w A n xs) (hb:Below w.heap.size w w1):ReadsOf enc d w1 A n xs :=
 ⟨h.1,h.2.1,fun hn=>by
   obtain ⟨ad,e,hc⟩:=h.2.2 hn
   exact ⟨ad,e,fun j hj=>pw_cell_below hb (hc j hj)⟩⟩
theorem ReadsOf.take_ {w:World} {A:Option Addr} {n:Nat} {xs:List α} (h:ReadsOf enc d w A n xs) (i:Nat) (hi:i≤n):ReadsOf enc d w A i (xs.take i):=by
 refine ⟨by rw [List.length_take,h.1];omega,by have:=h.2.1;omega,fun hp=> ?_⟩
 obtain ⟨ad,e,hc⟩:=h.2.2 (by omega)
 refine ⟨ad,e,fun j hj=> ?_⟩
 rw [hc j (by omega)]
 simp [List.getD_eq_getElem?_getD,hj]
end
section
variable {α:Type} {P:Program} {ops:Array Oper} {rest:List Oper} {o:Oper} {a:Act} {Q:Exit→Act→World→Prop}
end

section
variable {P:Program}
end
theorem own_le {w:World} {base n m c size:Nat} {e:TypeId} {A:Option Addr} {xs:List Value} (h:w.ownsRow base e size (.slice A m c) n xs):m≤c:=by
 rcases h.2 with ⟨he,_⟩ | ⟨g,cap,cur,he,_,_,hnc,_⟩
 · injection he with _ h2 h3
   omega
 · injection he with _ h2 h3
   omega
def OwnRow {α:Type} (R:α→List Value→Prop) (e:TypeId) (size:Nat) (w:World) (base:Nat) (v:Value) (ps:List α):Prop :=
 ∃ inner,w.ownsRow base e size v ps.length inner∧Reps R size ps inner
section
variable {α:Type} {R R':α→List Value→Prop} {e:TypeId} {size:Nat} {w w1:World} {base:Nat} {v:Value} {ps:List α}
theorem OwnRow.imp_ (h:OwnRow R e size w base v ps) (hR : ∀ p c,R p c→R' p c):OwnRow R' e size w base v ps:=by
 obtain ⟨inner,ho,hr⟩:=h
 exact ⟨inner,ho,hr.imp_ hR⟩
theorem OwnRow.below (h:OwnRow R e size w base v ps) (hb:Below w.heap.size w w1):OwnRow R e size w1 base v ps:=by
 obtain ⟨inner,ho,hr⟩:=h
 exact ⟨inner,pw_own_below ho hb,hr⟩
theorem OwnRow.other (h:OwnRow R e size w base v ps) {row:Option Nat} (hg:w.grownBy w1 row) (hne:v.ownBlock=none∨v.ownBlock≠row):OwnRow R e size w1 base v ps:=by
 obtain ⟨inner,ho,hr⟩:=h
 exact ⟨inner,own_other ho hg hne,hr⟩
theorem OwnRow.keep (h:OwnRow R e size w base v ps) {g:Nat} {t:TypeId} {cells:Array Value} (hb:w.heap[g]? =some (.cells cells t (0,0))) (ht:e≠t) (hk:KeepBut w w1 g none):OwnRow R e size w1 base v ps:=by
 obtain ⟨inner,ho,hr⟩:=h
 exact ⟨inner,hk.own ho (Ne.symm (own_ne ho hb ht)) (by cases v.ownBlock<;>simp),hr⟩
theorem OwnRow.lower (h:OwnRow R e size w base v ps) {base':Nat} (hb:base'≤base):OwnRow R e size w base' v ps:=by
 obtain ⟨inner,ho,hr⟩:=h
 exact ⟨inner,own_weaken ho hb,hr⟩
theorem OwnRow.reads (h:OwnRow R e size w base v ps) : ∃ A c,v= .slice A ps.length c∧ps.length≤c∧ReadsRow R size w A ps.length ps:=by
 obtain ⟨inner,ho,hr⟩:=h
 obtain ⟨A,c,rfl,hrow⟩:=own_reads_row ho hr rfl
 exact ⟨A,c,rfl,own_le ho,hrow⟩
theorem OwnRow.lit (W:World) (base:Nat) {inner:List Value} (hr:Reps R size ps inner) (hb:base≤W.heap.size) (hm:ps.length≤9223372036854775807) :
 OwnRow R e size (W.alloc (.cells inner.toArray e)) base (.slice (some ⟨W.heap.size,0,none⟩) ps.length ps.length) ps:=by
 have h:=World.ownsRow_lit (base:=base) (e:=e) (size:=size) W inner.toArray ps.length hb (by simpa [maxLen] using hm) (by simpa using hr.1)
 exact ⟨inner,by simpa using h,hr⟩
end
section
variable {P:Program} {ops:Array Oper} {rest:List Oper} {o:Oper} {a:Act} {Q:Exit→Act→World→Prop} {α:Type} {R:α→List Value→Prop}
theorem OwnRow.append {w0 W:World} (base:Nat) (hgd:o.guard=none) (s x:Operand) (t e:TypeId) (z:Value) (size bytes:Nat)
 (ho:o.op= .call {callee:= .builtin .append,args:= #[s,x],argTypes:= #[t,t]})
 (ht:P.underlying t=some (.slice e)) (hinfo:(P.info? e).map (fun i=>(i.zero,i.size,i.bytes))=some (some z,size,bytes)) (hz:z.cells.size=size) (hs0:0<size) (hb0:0<bytes)
 (v:Value) (ps:List α) (p:α) (cs:List Value) (hs:a.eval s=v) (hx:a.eval x= .slice (some ⟨W.heap.size,0,none⟩) 1 1) (hp:R p cs) (hcs:cs.length=size) (h1 : ∀ u∈cs,u.oneCell'=true)
 (HO:OwnRow R e size W base v ps) (HB:Below base w0 W) (hbase:base≤W.heap.size) (hl:(ps.length+1)*bytes≤140737488355328)
 (h : ∀ v1 w1,OwnRow R e size w1 base v1 (ps++ [p])→Below base w0 w1→W.grownBy w1 v.ownBlock→(v1.ownBlock=v.ownBlock∨ ∃ b,v1.ownBlock=some b∧W.heap.size≤b)→wpList P ops Q rest (a.put o.dst v1) w1) :
 wpList P ops Q (o::rest) a (W.alloc (.cells cs.toArray e)):=by
 obtain ⟨inner,hown,hr⟩:=HO
 refine print_append_cells base hgd s x t e z size bytes ho ht hinfo hz hs0 hb0 v ps.length inner cs hs hx hcs h1 hown HB hbase hl ?_
 intro v1 w1 hown1 hb1 hg1 hat1
 exact h v1 w1 ⟨inner++cs,by rw [List.length_append,List.length_singleton];exact hown1,hr.snoc hp hcs⟩ hb1 hg1 hat1
end
section
variable {P:Program} {ops:Array Oper} {o:Oper} {a:Act} {Q:Exit→Act→World→Prop} {K:Act→World→Prop} {α:Type} {R:α→List Value→Prop}
end
theorem ReadsRow.inner_ {α:Type} {R:α→List Value→Prop} {size:Nat} {w:World} {ad:Addr} {n:Nat} {ps:List α} (h:ReadsRow R size w (some ad) n ps) :
 ∃ inner,Reps R size ps inner∧ ∀ j u,inner[j]? =some u→w.cell? (ad.add j)=some u:=by
 have key : ∀ m,m≤ps.length→ ∃ inner,Reps R size (ps.take m) inner∧ ∀ j u,inner[j]? =some u→w.cell? (ad.add j)=some u:=by
  intro m
  induction m with
  | zero=>exact fun _=>⟨[],Reps.none _ _,fun j u hu=>by simp at hu⟩
  | succ m ih =>
    intro hm
    obtain ⟨inner,hr,hc⟩:=ih (by omega)
    obtain ⟨ad',he,hcell⟩:=h.2.2 (by have:=h.1;omega)
    injection he with he
    subst he
    obtain ⟨c,hcl,hp,hcc⟩:=hcell m _ (List.getElem?_eq_getElem (show m<ps.length by omega))
    refine ⟨inner++c, ?_,fun j u hu=> ?_⟩
    · rw [List.take_succ_eq_append_getElem (show m<ps.length by omega)]
      exact hr.snoc hp hcl
    · have hil:inner.length=m*size:=by rw [hr.1,List.length_take,Nat.min_eq_left (by omega)]
      rcases Nat.lt_or_ge j inner.length with hj | hj
      · rw [List.getElem?_append_left hj] at hu
        exact hc j u hu
      · rw [List.getElem?_append_right hj] at hu
        have:=hcc (j-inner.length) u hu
        rwa [hil,Nat.add_sub_cancel' (by omega)] at this
 obtain ⟨inner,hr,hc⟩:=key ps.length (Nat.le_refl _)
 rw [List.take_length] at hr
 exact ⟨inner,hr,hc⟩
section
variable {α:Type} {P:Program}
theorem ReadsOf.len_ {enc:α→Value} {d:α} {w:World} {A:Option Addr} {n:Nat} {xs:List α} (h:ReadsOf enc d w A n xs):ReadsOf enc d w A xs.length xs:=by rw [h.1];exact h
theorem print_take_of (enc:α→Value) (d:α) (t e:TypeId) (kl:IntKind) {i:TypeInfo} (ht:P.underlying t=some (.slice e)) (hi:P.info? e=some i) (hsz:i.size=1) (A:Option Addr) (c:Nat) (xs:List α) (j:Int) (h0:0≤j) (hm:j≤xs.length) (hc:xs.length≤c) :
 (∀ W:World,(Instr.slice t (.slice A xs.length c) none (some (.int kl j)) none).run P W= .ok (.slice A (xs.take j.toNat).length c) W) ∧
   (∀ w:World,ReadsOf enc d w A xs.length xs→ReadsOf enc d w A (xs.take j.toNat).length (xs.take j.toNat))∧(xs.take j.toNat).length≤c:=by
 have hl:(xs.take j.toNat).length=j.toNat:=by rw [List.length_take];omega
 refine ⟨fun W=> ?_,fun w h=>by rw [hl];exact h.take_ j.toNat (by omega),by rw [hl];omega⟩
 have hel:P.elem t=e:=by simp [Program.elem,ht]
 have hu:P.underlying t=some (.slice (P.elem t)):=by rw [hel];exact ht
 have ha:(A.map fun x=>x.add 0)=A:=by cases A<;>simp [Addr.add]
 rw [run_slice_h W t A xs.length c hu kl j h0 (by omega),hel,hl]
 simp [sizeOf,typeInfo,hi,hsz,sliced,Result.andThen,ha]
end

section
variable {P:Program} {ops:Array Oper} {rest:List Oper} {o:Oper} {a:Act} {Q:Exit→Act→World→Prop}
end
structure Kd (α:Type) where
 sz:Nat
 E:List Nat
 K:World→α→List Value→Prop
 M:World→Nat→(Nat→Prop)→α→List Value→Prop
 K_len : ∀ {w x cs},K w x cs→cs.length=sz
 K_one : ∀ {w x cs},K w x cs→ ∀ u∈cs,u.oneCell'=true
 K_below : ∀ {w w1:World} {x cs},Below w.heap.size w w1→K w x cs→K w1 x cs
 K_of_M : ∀ {w base ok x cs},M w base ok x cs→K w x cs
 M_mono : ∀ {w base ok ok' x cs},(∀ k,ok k→ok' k)→M w base ok x cs→M w base ok' x cs
 M_bound : ∀ {w:World} {base ok x cs},M w base ok x cs→M w base (fun k=>ok k∧base≤k∧k<w.heap.size∧ ∃ q,q∈E∧ ∃ cells,w.heap[k]? =some (.cells cells q (0,0))) x cs
 M_move : ∀ {w w1:World} {base ok x cs},(∀ k,ok k→w1.heap[k]? =w.heap[k]?)→M w base ok x cs→M w1 base ok x cs
 M_lower : ∀ {w base base' ok x cs},base'≤base→M w base ok x cs→M w base' ok x cs

theorem own_move {w w1:World} {base:Nat} {e:TypeId} {size n:Nat} {v:Value} {xs:List Value} (h:w.ownsRow base e size v n xs) (hm : ∀ k,v.ownBlock=some k→w1.heap[k]? =w.heap[k]?):w1.ownsRow base e size v n xs:=by
 obtain ⟨h1,h2⟩:=h
 refine ⟨h1, ?_⟩
 rcases h2 with h2 | ⟨g,cap,cur,rfl,hg,hh,r⟩
 · exact .inl h2
 · exact .inr ⟨g,cap,cur,rfl,hg,(hm g (by simp [Value.ownBlock])).trans hh,r⟩
theorem own_typed {w:World} {base:Nat} {e:TypeId} {size n:Nat} {v:Value} {xs:List Value} (h:w.ownsRow base e size v n xs) (k:Nat) (hk:v.ownBlock=some k) : ∃ cells,w.heap[k]? =some (.cells cells e (0,0)):=by
 rcases h.2 with ⟨rfl,_⟩ | ⟨g,cap,cur,rfl,hg,hh,r⟩
 · simp [Value.ownBlock] at hk
 · have:g=k:=by simpa [Value.ownBlock] using hk
   subst this
   exact ⟨cur,hh⟩

namespace Kd
def C {α:Type} (d:Kd α) (w:World) (A:Option Addr) (n:Nat) (xs:List α):Prop:=ReadsRow (d.K w) d.sz w A n xs
def R {α:Type} (d:Kd α) (e:Nat) (w:World) (base:Nat) (ok:Nat→Prop) (v:Value) (xs:List α):Prop :=
 (∀ k,v.ownBlock=some k→ok k)∧OwnRow (d.M w base (fun k=>ok k∧some k≠v.ownBlock)) e d.sz w base v xs
section
variable {α:Type} {d:Kd α} {e:Nat} {w w1:World} {base:Nat} {ok ok':Nat→Prop} {v:Value} {xs:List α}
theorem C_below {A:Option Addr} {n:Nat} (h:d.C w A n xs) (hb:Below w.heap.size w w1):d.C w1 A n xs:=ReadsRow.imp_ h hb (fun _ _ hp=>d.K_below hb hp)
theorem R_mono (h:d.R e w base ok v xs) (hok : ∀ k,ok k→ok' k):d.R e w base ok' v xs:=⟨fun k hk=>hok k (h.1 k hk),h.2.imp_ (fun _ _ hp=>d.M_mono (fun k hk=>⟨hok k hk.1,hk.2⟩) hp)⟩
theorem R_bound (h:d.R e w base ok v xs):d.R e w base (fun k=>ok k∧base≤k∧k<w.heap.size∧ ∃ q,q∈e::d.E∧ ∃ cells,w.heap[k]? =some (.cells cells q (0,0))) v xs:=by
 obtain ⟨h0,inner,ho,hr⟩:=h
 refine ⟨fun k hk=> ?_,inner,ho,hr.imp_ (fun _ _ hp=>d.M_mono (fun k hk=> ?_) (d.M_bound hp))⟩
 · obtain ⟨cells,hc⟩:=own_typed ho k hk
   exact ⟨h0 k hk,own_base ho k hk,own_lt ho k hk,e,List.mem_cons_self,cells,hc⟩
 · obtain ⟨⟨h1,h2⟩,h3,h4,q,hq,hc⟩:=hk
   exact ⟨⟨h1,h3,h4,q,List.mem_cons_of_mem _ hq,hc⟩,h2⟩
theorem R_move (h:d.R e w base ok v xs) (hm : ∀ k,ok k→w1.heap[k]? =w.heap[k]?):d.R e w1 base ok v xs:=by
 obtain ⟨h0,inner,ho,hr⟩:=h
 exact ⟨h0,inner,own_move ho (fun k hk=>hm k (h0 k hk)),hr.imp_ (fun _ _ hp=>d.M_move (fun k hk=>hm k hk.1) hp)⟩
theorem R_lower {base':Nat} (h:d.R e w base ok v xs) (hb:base'≤base):d.R e w base' ok v xs:=by
 obtain ⟨h0,inner,ho,hr⟩:=h
 exact ⟨h0,inner,own_weaken ho hb,hr.imp_ (fun _ _ hp=>d.M_lower hb hp)⟩
theorem R_step (h:d.R e w base ok v xs) (hm : ∀ k,ok k→k<w.heap.size→w1.heap[k]? =w.heap[k]?):d.R e w1 base ok v xs :=
 R_mono (R_move (R_bound h) (fun k hk=>hm k hk.1 hk.2.2.1)) (fun _ hk=>hk.1)
theorem M_step {x:α} {cs:List Value} (h:d.M w base ok x cs) (hm : ∀ k,ok k→k<w.heap.size→w1.heap[k]? =w.heap[k]?):d.M w1 base ok x cs :=
 d.M_mono (fun _ hk=>hk.1) (d.M_move (fun k hk=>hm k hk.1 hk.2.2.1) (d.M_bound h))
theorem R_below (h:d.R e w base ok v xs) (hb:Below w.heap.size w w1):d.R e w1 base ok v xs:=R_step h (fun k _ hk=>hb.block k hk)
theorem M_below {x:α} {cs:List Value} (h:d.M w base ok x cs) (hb:Below w.heap.size w w1):d.M w1 base ok x cs:=M_step h (fun k _ hk=>hb.block k hk)
theorem R_reads (h:d.R e w base ok v xs) : ∃ A c,v= .slice A xs.length c∧xs.length≤c∧d.C w A xs.length xs:=by
 obtain ⟨A,c,he,hl,hr⟩:=OwnRow.reads h.2
 exact ⟨A,c,he,hl,hr.imp_ (Below.refl _ _) (fun _ _ hp=>d.K_of_M hp)⟩
theorem R_slice (h:d.R e w base ok v xs) : ∃ A c,v= .slice A xs.length c:=by
 obtain ⟨A,c,he,_⟩:=R_reads h
 exact ⟨A,c,he⟩
theorem R_own (h:d.R e w base ok v xs) : ∃ inner,w.ownsRow base e d.sz v xs.length inner:=by
 obtain ⟨_,inner,ho,_⟩:=h
 exact ⟨inner,ho⟩
end

def scalar {α:Type} (enc:α→Value) (h1 : ∀ x,(enc x).oneCell'=true):Kd α where
 sz:=1
 E:= []
 K:=fun _ x cs=>cs= [enc x]
 M:=fun _ _ _ x cs=>cs= [enc x]
 K_len:=fun h=>by rw [h];rfl
 K_one:=fun h u hu=>by
  rw [h] at hu
  rw [List.mem_singleton.1 hu]
  exact h1 _
 K_below:=fun _ h=>h
 K_of_M:=fun h=>h
 M_mono:=fun _ h=>h
 M_bound:=fun h=>h
 M_move:=fun _ h=>h
 M_lower:=fun _ h=>h
def int (k:IntKind):Kd Int:=scalar (Value.int k) (fun _=>rfl)
def bool:Kd Bool:=scalar Value.bool (fun _=>rfl)
def string:Kd ByteArray:=scalar Value.string (fun _=>rfl)
def slice {α:Type} (e:Nat) (d:Kd α):Kd (List α) where
 sz:=1
 E:=e::d.E
 K:=fun w xs cs=> ∃ A c,cs= [.slice A xs.length c]∧xs.length≤c∧d.C w A xs.length xs
 M:=fun w base ok xs cs=> ∃ v,cs= [v]∧d.R e w base ok v xs
 K_len:=by
  rintro w x cs ⟨A,c,rfl,_⟩
  rfl
 K_one:=by
  rintro w x cs ⟨A,c,rfl,_⟩ u hu
  rw [List.mem_singleton.1 hu]
  rfl
 K_below:=by
  rintro w w1 x cs hb ⟨A,c,rfl,hl,hr⟩
  exact ⟨A,c,rfl,hl,C_below hr hb⟩
 K_of_M:=by
  rintro w base ok x cs ⟨v,rfl,h⟩
  obtain ⟨A,c,rfl,hl,hr⟩:=R_reads h
  exact ⟨A,c,rfl,hl,hr⟩
 M_mono:=by
  rintro w base ok ok' x cs hok ⟨v,rfl,h⟩
  exact ⟨v,rfl,R_mono h hok⟩
 M_bound:=by
  rintro w base ok x cs ⟨v,rfl,h⟩
  exact ⟨v,rfl,R_bound h⟩
 M_move:=by
  rintro w w1 base ok x cs hm ⟨v,rfl,h⟩
  exact ⟨v,rfl,R_move h hm⟩
 M_lower:=by
  rintro w base base' ok x cs hb ⟨v,rfl,h⟩
  exact ⟨v,rfl,R_lower h hb⟩
def pair {α β:Type} (a:Kd α) (b:Kd β):Kd (α × β) where
 sz:=a.sz+b.sz
 E:=a.E++b.E
 K:=fun w x cs=> ∃ c0 c1,cs=c0++c1∧a.K w x.1 c0∧b.K w x.2 c1
 M:=fun w base ok x cs=> ∃ c0 c1,cs=c0++c1∧a.M w base ok x.1 c0∧b.M w base ok x.2 c1
 K_len:=by
  rintro w x cs ⟨c0,c1,rfl,h0,h1⟩
  rw [List.length_append,a.K_len h0,b.K_len h1]
 K_one:=by
  rintro w x cs ⟨c0,c1,rfl,h0,h1⟩ u hu
  rcases List.mem_append.1 hu with hu | hu
  · exact a.K_one h0 u hu
  · exact b.K_one h1 u hu
 K_below:=by
  rintro w w1 x cs hb ⟨c0,c1,rfl,h0,h1⟩
  exact ⟨c0,c1,rfl,a.K_below hb h0,b.K_below hb h1⟩
 K_of_M:=by
  rintro w base ok x cs ⟨c0,c1,rfl,h0,h1⟩
  exact ⟨c0,c1,rfl,a.K_of_M h0,b.K_of_M h1⟩
 M_mono:=by
  rintro w base ok ok' x cs hok ⟨c0,c1,rfl,h0,h1⟩
  exact ⟨c0,c1,rfl,a.M_mono hok h0,b.M_mono hok h1⟩
 M_bound:=by
  rintro w base ok x cs ⟨c0,c1,rfl,h0,h1⟩
  refine ⟨c0,c1,rfl,a.M_mono ?_ (a.M_bound h0),b.M_mono ?_ (b.M_bound h1)⟩
  · rintro k ⟨h2,h3,h4,q,hq,hc⟩
    exact ⟨h2,h3,h4,q,List.mem_append_left _ hq,hc⟩
  · rintro k ⟨h2,h3,h4,q,hq,hc⟩
    exact ⟨h2,h3,h4,q,List.mem_append_right _ hq,hc⟩
 M_move:=by
  rintro w w1 base ok x cs hm ⟨c0,c1,rfl,h0,h1⟩
  exact ⟨c0,c1,rfl,a.M_move hm h0,b.M_move hm h1⟩
 M_lower:=by
  rintro w base base' ok x cs hb ⟨c0,c1,rfl,h0,h1⟩
  exact ⟨c0,c1,rfl,a.M_lower hb h0,b.M_lower hb h1⟩
def bot {α:Type} (sz:Nat) (E:List Nat):Kd α where
 sz:=sz
 E:=E
 K:=fun _ _ _=>False
 M:=fun _ _ _ _ _=>False
 K_len:=fun h=>h.elim
 K_one:=fun h=>h.elim
 K_below:=fun _ h=>h
 K_of_M:=fun h=>h
 M_mono:=fun _ h=>h
 M_bound:=fun h=>h
 M_move:=fun _ h=>h
 M_lower:=fun _ h=>h
def upto {α:Type} (F:Kd α→Kd α) (sz:Nat) (E:List Nat):Nat→Kd α
 | 0=>bot sz E
 | n+1=>F (upto F sz E n)
theorem R_appended {α:Type} {d:Kd α} {e base:Nat} {ok okp:Nat→Prop} {W w1:World} {v v1:Value} {xs:List α} {p:α} {inner cs:List Value} (h0 : ∀ k,v.ownBlock=some k→ok k) (hr:Reps (d.M W base (fun k=>ok k∧some k≠v.ownBlock)) d.sz xs inner) (hp:d.M W base okp p cs) (hokp : ∀ k,okp k→ok k∧some k≠v.ownBlock) (hfresh : ∀ k,W.heap.size≤k→ok k)
 (hown:w1.ownsRow base e d.sz v1 (xs.length+1) (inner++cs)) (hg:W.grownBy w1 v.ownBlock) (hat:v1.ownBlock=v.ownBlock∨ ∃ b,v1.ownBlock=some b∧W.heap.size≤b):d.R e w1 base ok v1 (xs++ [p]):=by
 have hne : ∀ k,some k≠v.ownBlock→k<W.heap.size→some k≠v1.ownBlock:=by
  intro k hk hlt
  rcases hat with hat | ⟨b,hb,hle⟩
  · rw [hat];exact hk
  · rw [hb]
    intro he
    injection he with he
    omega
 have step : ∀ {q:α} {c:List Value} {o:Nat→Prop},d.M W base o q c→(∀ k,o k→ok k∧some k≠v.ownBlock)→d.M w1 base (fun k=>ok k∧some k≠v1.ownBlock) q c:=by
  intro q c o hq ho
  have h1:=d.M_move (w1:=w1) (fun k hk=>hg.block k hk.2.2.1 (ho k hk.1).2) (d.M_bound hq)
  exact d.M_mono (fun k hk=>⟨(ho k hk.1).1,hne k (ho k hk.1).2 hk.2.2.1⟩) h1
 refine ⟨fun k hk=> ?_,inner++cs,by rw [List.length_append,List.length_singleton];exact hown, ?_⟩
 · rcases hat with hat | ⟨b,hb,hle⟩
   · exact h0 k (hat▸hk)
   · rw [hb] at hk
     injection hk with hk
     exact hfresh k (by omega)
 · exact (hr.imp_ (fun _ _ hq=>step hq (fun _ hk=>hk))).snoc (step hp hokp) (d.K_len (d.K_of_M hp))
section
variable {P:Program} {ops:Array Oper} {rest:List Oper} {o:Oper} {a:Act} {Q:Exit→Act→World→Prop} {α:Type}
theorem R_append (d:Kd α) {w0 W:World} (base:Nat) (hgd:o.guard=none) (s x:Operand) (t e:TypeId) (z:Value) (bytes:Nat)
 (ho:o.op= .call {callee:= .builtin .append,args:= #[s,x],argTypes:= #[t,t]})
 (ht:P.underlying t=some (.slice e)) (hinfo:(P.info? e).map (fun i=>(i.zero,i.size,i.bytes))=some (some z,d.sz,bytes)) (hz:z.cells.size=d.sz) (hs0:0<d.sz) (hb0:0<bytes)
 (v:Value) (xs:List α) (p:α) (cs:List Value) (ok okp:Nat→Prop) (hs:a.eval s=v) (hx:a.eval x= .slice (some ⟨W.heap.size,0,none⟩) 1 1) (hp:d.M W base okp p cs) (hokp : ∀ k,okp k→ok k∧some k≠v.ownBlock) (hfresh : ∀ k,W.heap.size≤k→ok k)
 (HO:d.R e W base ok v xs) (HB:Below base w0 W) (hbase:base≤W.heap.size) (hl:(xs.length+1)*bytes≤140737488355328)
 (h : ∀ v1 w1,d.R e w1 base ok v1 (xs++ [p])→Below base w0 w1→W.grownBy w1 v.ownBlock→(v1.ownBlock=v.ownBlock∨ ∃ b,v1.ownBlock=some b∧W.heap.size≤b)→wpList P ops Q rest (a.put o.dst v1) w1) :
 wpList P ops Q (o::rest) a (W.alloc (.cells cs.toArray e)):=by
 obtain ⟨h0,inner,hown,hr⟩:=HO
 refine print_append_cells base hgd s x t e z d.sz bytes ho ht hinfo hz hs0 hb0 v xs.length inner cs hs hx (d.K_len (d.K_of_M hp)) (d.K_one (d.K_of_M hp)) hown HB hbase hl ?_
 intro v1 w1 hown1 hb1 hg1 hat1
 exact h v1 w1 (R_appended h0 hr hp hokp hfresh hown1 hg1 hat1) hb1 hg1 hat1
end
section
variable {P:Program} {ops:Array Oper} {o:Oper} {a:Act} {Q:Exit→Act→World→Prop} {Kc:Act→World→Prop} {α:Type}
end
theorem C_of_reads {α:Type} {enc:α→Value} {d:α} {h1 : ∀ x,(enc x).oneCell'=true} {w:World} {A:Option Addr} {n:Nat} {xs:List α} (h:ReadsOf enc d w A n xs):(scalar enc h1).C w A n xs:=by
 refine ⟨h.1,h.2.1,fun hn=> ?_⟩
 obtain ⟨ad,e,hc⟩:=h.2.2 hn
 refine ⟨ad,e,fun j p hj=>⟨[enc p],rfl,rfl,fun i u hu=> ?_⟩⟩
 obtain ⟨hl,hp⟩:=List.getElem?_eq_some_iff.1 hj
 have h2:=hc j (by have:=h.1;omega)
 rw [List.getD_eq_getElem?_getD,hj] at h2
 cases i with
 | zero =>
   have:enc p=u:=by simpa using hu
   subst this
   simpa [scalar] using h2
 | succ i=>simp at hu
theorem reads_of_C {α:Type} {enc:α→Value} {d:α} {h1 : ∀ x,(enc x).oneCell'=true} {w:World} {A:Option Addr} {n:Nat} {xs:List α} (h:(scalar enc h1).C w A n xs):ReadsOf enc d w A n xs:=by
 refine ⟨h.1,h.2.1,fun hn=> ?_⟩
 obtain ⟨ad,e,hc⟩:=h.2.2 hn
 refine ⟨ad,e,fun j hj=> ?_⟩
 have hl:j<xs.length:=by have:=h.1;omega
 obtain ⟨c,_,hK,hcell⟩:=hc j _ (List.getElem?_eq_getElem hl)
 have hK':c= [enc xs[j]]:=hK
 subst hK'
 have:=hcell 0 _ rfl
 simpa [scalar,List.getD_eq_getElem?_getD,List.getElem?_eq_getElem hl] using this
end Kd
namespace Kd
section
variable {α:Type} {F:Kd α→Kd α} {sz:Nat} {E:List Nat} {hs : ∀ n,(upto F sz E n).sz=sz} {hE : ∀ n q,q∈(upto F sz E n).E→q∈E}
end
end Kd
namespace Kd
end Kd
namespace Kd
section
variable {α β:Type} {d:Kd α} {d':Kd β} {e e':Nat} {w w1 W:World} {base b b':Nat} {ok ok' okv oku:Nat→Prop} {v u:Value} {xs:List α} {ys:List β}
theorem R_alloc (h:d.R e w base ok v xs) (o:Obj):d.R e (w.alloc o) base ok v xs:=R_below h (below_alloc (Below.refl _ _) o)
theorem R_drew (h:d.R e w base ok v xs):d.R e w.drew base ok v xs:=R_below h (below_drew (Below.refl _ _))
theorem R_drewN (h:d.R e w base ok v xs) (m:Nat):d.R e (w.drewN m) base ok v xs:=R_below h (pw_below_drewN (Below.refl _ _) m)
theorem C_alloc {A:Option Addr} {n:Nat} (h:d.C w A n xs) (o:Obj):d.C (w.alloc o) A n xs:=C_below h (below_alloc (Below.refl _ _) o)
theorem C_drew {A:Option Addr} {n:Nat} (h:d.C w A n xs):d.C w.drew A n xs:=C_below h (below_drew (Below.refl _ _))
theorem C_drewN {A:Option Addr} {n:Nat} (h:d.C w A n xs) (m:Nat):d.C (w.drewN m) A n xs:=C_below h (pw_below_drewN (Below.refl _ _) m)
theorem R_reads' {A:Option Addr} {n c:Nat} (h:d.R e w base ok (.slice A n c) xs):n=xs.length∧n≤c∧d.C w A xs.length xs:=by
 obtain ⟨A',c',he,hl,hr⟩:=R_reads h
 injection he with h1 h2 h3
 subst h1
 exact ⟨h2,by omega,hr⟩
theorem R_lt (h:d.R e w base ok v xs) : ∀ k,v.ownBlock=some k→k<w.heap.size:=by
 obtain ⟨inner,ho⟩:=R_own h
 exact own_lt ho
theorem R_base (h:d.R e w base ok v xs) : ∀ k,v.ownBlock=some k→base≤k:=by
 obtain ⟨inner,ho⟩:=R_own h
 exact own_base ho
end
section
variable {w W:World} {A:Option Addr} {n:Nat}
theorem at_int {k:IntKind} {xs:List Int} (h:(Kd.int k).C w A n xs) (i:Int) (h0:0≤i) (h1:i<n) : ∃ ad,A=some ad∧w.cell? (ad.add i.toNat)=some (.int k (rd xs i)) :=
 ReadsOf.at_ (reads_of_C (enc:=Value.int k) (d:=(0:Int)) (h1:=fun _=>rfl) h) i h0 h1
variable {α:Type} {enc:α→Value} {h1 : ∀ x,(enc x).oneCell'=true} {e base g cap:Nat} {ok:Nat→Prop} {xs:List α}
end

section
variable {P:Program} {ops:Array Oper} {rest:List Oper} {o:Oper} {a:Act} {Q:Exit→Act→World→Prop}
theorem event_run {W w1:World} {v:Value} (hgd:o.guard=none) (hrun:(execOp a.eval o).run P W= .ok (.value v) w1) (h:wpList P ops Q rest (a.put o.dst v) w1):wpList P ops Q (o::rest) a W:=by
 refine wpList_plain hgd fun K hK=> ?_
 unfold Oper.wp
 rw [hrun]
 exact hK _ _ h
variable {α:Type}
theorem R_lit (d:Kd α) {w0 W:World} (base e:Nat) (hgd:o.guard=none) {N:Tmp} (_hd:o.dst=some N) {xs:List α} {inner:List Value} {ok okp:Nat→Prop}
 (hrun:(execOp a.eval o).run P W= .ok (.value (.slice (some ⟨W.heap.size,0,none⟩) xs.length xs.length)) (W.alloc (.cells inner.toArray e)))
 (hrep:Reps (d.M W base okp) d.sz xs inner) (hok : ∀ k,okp k→ok k) (hfresh:ok W.heap.size) (HB:Below base w0 W) (hbase:base≤W.heap.size) (hm:xs.length≤9223372036854775807)
 (h : ∀ v1 w1,d.R e w1 base ok v1 xs→Below base w0 w1→W.grownBy w1 none→(∃ b,v1.ownBlock=some b∧W.heap.size≤b)→wpList P ops Q rest (a.put o.dst v1) w1):wpList P ops Q (o::rest) a W:=by
 refine event_run hgd hrun (h _ _ ⟨fun k hk=> ?_,inner, ?_, ?_⟩ (HB.alloc hbase _) (World.grownBy_alloc W _ none) ⟨W.heap.size,by simp [Value.ownBlock],Nat.le_refl _⟩)
 · have:W.heap.size=k:=by simpa [Value.ownBlock] using hk
   subst this
   exact hfresh
 · have h2:=World.ownsRow_lit (base:=base) (e:=e) (size:=d.sz) W inner.toArray xs.length hbase (by simpa [maxLen] using hm) (by simpa using hrep.1)
   simpa using h2
 · refine hrep.imp_ (fun p c hp=>d.M_mono (fun k hk=>⟨hok k hk.1,fun he=> ?_⟩) (M_below (d.M_bound hp) (below_alloc (Below.refl _ _) _)))
   have h3:k=W.heap.size:=by simpa [Value.ownBlock] using he
   have:=hk.2.2.1
   omega
theorem reps_made {α:Type} {R:α→List Value→Prop} {z:Value} {size:Nat} {z0:α} (hz:z.cells.size=size) (hs:0<size) (h0:R z0 z.cells.toList) (m:Nat):Reps R size (List.replicate m z0) (madeCells z.cells (m*size)).toList:=by
 refine ⟨by simp [size_madeCells],fun j p hj=> ?_⟩
 obtain ⟨hjl,hp⟩:=List.getElem?_eq_some_iff.1 hj
 have hjm:j<m:=by simpa using hjl
 have hp':z0=p:=by simpa using hp
 subst hp'
 have hle:j*size+size≤m*size:=by rw [← Nat.succ_mul];exact Nat.mul_le_mul_right _ hjm
 have:((madeCells z.cells (m*size)).toList.drop (j*size)).take size=z.cells.toList:=by
  apply List.ext_getElem
  · simp [size_madeCells,hz]
    omega
  · intro i h1 h2
    have hi:i<size:=by rw [Array.length_toList,hz] at h2;exact h2
    have hmod:(j*size+i)%size=i:=by
     rw [Nat.mul_comm,Nat.mul_add_mod]
     exact Nat.mod_eq_of_lt hi
    simp [madeCells,hz,hmod]
    rw [getElem!_pos z.cells i (by omega)]
 rw [this]
 exact h0
end
end Kd
theorem own_take {w:World} {base n m c size:Nat} {e:TypeId} {A:Option Addr} {xs:List Value} (h:w.ownsRow base e size (.slice A n c) n xs) (hm:m≤n):w.ownsRow base e size (.slice A m c) m (xs.take (m*size)):=by
 obtain ⟨h1,h2⟩:=h
 refine ⟨by rw [List.length_take,h1];exact Nat.min_eq_left (Nat.mul_le_mul_right _ hm), ?_⟩
 rcases h2 with ⟨he,h0⟩ | ⟨g,cap,cur,he,hb,hh,hnc,hcm,hcs,ht⟩
 · injection he with ha _ hc
   subst ha;subst hc
   exact .inl ⟨by rw [show m=0 by omega],by omega⟩
 · injection he with ha _ hc
   subst ha;subst hc
   refine .inr ⟨g,c,cur,rfl,hb,hh,by omega,hcm,hcs, ?_⟩
   rw [← ht,List.take_take,Nat.min_eq_left (Nat.mul_le_mul_right _ hm)]
section
variable {P:Program}
end
def QRow (w:World) (base:Nat) (e:TypeId) (size:Nat) (v:Value) (n:Nat) (xs:List Value):Prop :=
 xs.length=n*size ∧
 ((n=0∧ ∃ A,v= .slice A 0 0∧ ∀ a,A=some a→base≤a.block∧ ∃ cur,w.heap[a.block]? =some (.cells cur e (0,0))) ∨
  ∃ g off cap cur,v= .slice (some ⟨g,off*size,none⟩) n cap∧base≤g∧w.heap[g]? =some (.cells cur e (0,0))∧n≤cap∧off+cap≤maxLen∧cur.size=(off+cap)*size∧(cur.toList.drop (off*size)).take (n*size)=xs)
section
variable {w w1:World} {base n size:Nat} {e:TypeId} {v:Value} {xs:List Value}
theorem q_typed (h:QRow w base e size v n xs) (k:Nat) (hk:v.ownBlock=some k):base≤k∧ ∃ cells,w.heap[k]? =some (.cells cells e (0,0)):=by
 rcases h.2 with ⟨_,A,rfl,hA⟩ | ⟨g,off,cap,cur,rfl,hg,hh,r⟩
 · cases A with
   | none=>simp [Value.ownBlock] at hk
   | some a =>
     have:a.block=k:=by simpa [Value.ownBlock] using hk
     subst this
     exact hA a rfl
 · have:g=k:=by simpa [Value.ownBlock] using hk
   subst this
   exact ⟨hg,cur,hh⟩
theorem q_slice (h:QRow w base e size v n xs) : ∃ A c,v= .slice A n c∧n≤c:=by
 rcases h.2 with ⟨h0,A,rfl,_⟩ | ⟨g,off,cap,cur,rfl,hg,hh,hnc,r⟩
 · exact ⟨A,0,by rw [h0],by omega⟩
 · exact ⟨_,cap,rfl,hnc⟩
theorem q_max (h:QRow w base e size v n xs):n≤9223372036854775807:=by
 rcases h.2 with ⟨h0,_⟩ | ⟨g,off,cap,cur,rfl,hg,hh,hnc,hm,r⟩
 · omega
 · simp only [maxLen] at hm
   omega
theorem add_at (g o j:Nat):(⟨g,o,none⟩:Addr).add j=⟨g,o+j,none⟩:=by unfold Addr.add;split<;>simp_all
theorem q_cells {A:Option Addr} {c:Nat} (h:QRow w base e size (.slice A n c) n xs) (hn:0<n) : ∃ ad,A=some ad∧ ∀ j u,xs[j]? =some u→w.cell? (ad.add j)=some u:=by
 rcases h.2 with ⟨h0,_⟩ | ⟨g,off,cap,cur,he,hg,hh,hnc,hm,hcs,ht⟩
 · omega
 · injection he with ha _ hc
   subst ha
   refine ⟨_,rfl,fun j u hu=> ?_⟩
   rw [add_at,cell_of_row w g _ cur e (0,0) hh]
   rw [← ht,List.getElem?_take] at hu
   split at hu
   · rw [List.getElem?_drop] at hu
     rw [← Array.getElem?_toList]
     exact hu
   · cases hu
theorem setCells_far {g:Nat} : ∀ (vs:List Value) (o:Nat) {w:World} (k:Nat),k≠g→(w.setCells g o vs).heap[k]? =w.heap[k]?
 | [],_,_,_,_=>rfl
 | v::r,o,w,k,hk=>by
   rw [World.setCells,setCells_far r (o+1) k hk]
   exact Below.heap_setCell w ⟨g,o,none⟩ v k hk
theorem setCells_same (g:Nat) : ∀ (vs:List Value) (o:Nat) (w:World),(w.setCells g o vs).os=w.os∧(w.setCells g o vs).tape=w.tape∧(w.setCells g o vs).output=w.output∧(w.setCells g o vs).heap.size=w.heap.size
 | [],_,_=>⟨rfl,rfl,rfl,rfl⟩
 | v::r,o,w=>by
   obtain ⟨h1,h2,h3,h4⟩:=setCells_same g r (o+1) (w.setCell ⟨g,o,none⟩ v)
   rw [World.setCells]
   exact ⟨h1,h2,h3,by rw [h4];simp [World.setCell]⟩
theorem setCells_row {g:Nat} {e:TypeId} : ∀ (vs:List Value) (o:Nat) (w:World) (cur:Array Value),w.heap[g]? =some (.cells cur e (0,0))→o+vs.length≤cur.size →
 ∃ cur',(w.setCells g o vs).heap[g]? =some (.cells cur' e (0,0))∧cur'.size=cur.size∧cur'.toList=cur.toList.take o++vs++cur.toList.drop (o+vs.length)
 | [],o,w,cur,h,_=>⟨cur,h,rfl,by simp⟩
 | v::r,o,w,cur,h,hl=>by
   have h2:=blk_set h o v
   simp only [List.length_cons] at hl
   obtain ⟨cur',h3,h4,h5⟩:=setCells_row r (o+1) (w.setCell ⟨g,o,none⟩ v) _ h2 (by simp;omega)
   refine ⟨cur',h3,by rw [h4];simp, ?_⟩
   rw [h5,Array.toList_setIfInBounds]
   have ho:o<cur.toList.length:=by rw [Array.length_toList];omega
   rw [List.take_set,List.drop_set_of_lt (by omega)]
   simp only [List.length_cons]
   rw [show o+1+r.length=o+(r.length+1) by omega]
   congr 1
   rw [List.take_succ_eq_append_getElem ho,List.set_append_right _ _ (by rw [List.length_take];omega)]
   have ho':o<cur.size:=by omega
   simp [Nat.min_eq_left (Nat.le_of_lt ho')]
end
section
variable {P:Program}
end
namespace Kd
theorem reps_take {α:Type} {R:α→List Value→Prop} {size m:Nat} {ps:List α} {cs:List Value} (h:Reps R size ps cs) (hm:m≤ps.length):Reps R size (ps.take m) (cs.take (m*size)):=by
 refine ⟨by rw [List.length_take,List.length_take,h.1,Nat.min_eq_left hm,Nat.min_eq_left (Nat.mul_le_mul_right _ hm)],fun j p hj=> ?_⟩
 rw [List.getElem?_take] at hj
 split at hj
 · rename_i hjm
   have:=h.2 j p hj
   have hle:j*size+size≤m*size:=by rw [← Nat.succ_mul];exact Nat.mul_le_mul_right _ hjm
   rw [List.drop_take,List.take_take,Nat.min_eq_left (by omega)]
   exact this
 · cases hj
theorem R_take {α:Type} {d:Kd α} {e m n c:Nat} {w:World} {base:Nat} {ok:Nat→Prop} {A:Option Addr} {xs:List α} (h:d.R e w base ok (.slice A n c) xs) (hm:m≤xs.length):d.R e w base ok (.slice A m c) (xs.take m):=by
 obtain ⟨h0,inner,ho,hr⟩:=h
 have hn:n=xs.length:=by
  obtain ⟨A',c',he⟩:=own_slice ho
  injection he
 subst hn
 have hb : ∀ x y:Nat,(Value.slice A x c).ownBlock=(Value.slice A y c).ownBlock:=by
  intro x y
  cases A<;>rfl
 refine ⟨fun k hk=>h0 k (by rw [hb _ m];exact hk),inner.take (m*d.sz), ?_, ?_⟩
 · rw [List.length_take,Nat.min_eq_left hm]
   exact own_take ho hm
 · rw [hb m xs.length]
   exact reps_take hr hm
def Q {α:Type} (d:Kd α) (e:Nat) (w:World) (base:Nat) (ok:Nat→Prop) (v:Value) (xs:List α):Prop :=
 (∀ k,v.ownBlock=some k→ok k)∧ ∃ inner,QRow w base e d.sz v xs.length inner∧Reps (d.M w base (fun k=>ok k∧some k≠v.ownBlock)) d.sz xs inner
section
variable {α:Type} {d:Kd α} {e:Nat} {w w1 W:World} {base:Nat} {ok ok':Nat→Prop} {v:Value} {xs:List α}
theorem Q_reads' {A:Option Addr} {n c:Nat} (h:d.Q e w base ok (.slice A n c) xs):n=xs.length∧n≤c∧d.C w A xs.length xs:=by
 obtain ⟨_,inner,ho,hr⟩:=h
 obtain ⟨A',c',he,hl⟩:=q_slice ho
 injection he with h1 h2 h3
 subst h1;subst h2;subst h3
 refine ⟨rfl,hl,rfl,q_max ho,fun hp=> ?_⟩
 obtain ⟨ad,ha,hc⟩:=q_cells ho hp
 refine ⟨ad,ha,fun j p hj=>⟨(inner.drop (j*d.sz)).take d.sz, ?_,d.K_of_M (hr.2 j p hj),fun i u hu=> ?_⟩⟩
 · have hjl:=(List.getElem?_eq_some_iff.1 hj).1
   have h1:j*d.sz+d.sz≤inner.length:=by rw [hr.1,← Nat.succ_mul];exact Nat.mul_le_mul_right _ hjl
   rw [List.length_take,List.length_drop]
   omega
 · refine hc _ u ?_
   rw [List.getElem?_take] at hu
   split at hu
   · rw [List.getElem?_drop] at hu
     exact hu
   · cases hu
end
section
variable {P:Program} {ops:Array Oper} {rest:List Oper} {o:Oper} {a:Act} {Q':Exit→Act→World→Prop} {Kc:Act→World→Prop} {α:Type}
end
end Kd
namespace Kd
section
variable {α:Type} {d:Kd α} {e e':Nat} {w w1 W:World} {base:Nat} {ok:Nat→Prop} {u v:Value} {xs:List α}
theorem R_elder' (hu:d.R e W base ok u xs) (hbase : ∀ k,v.ownBlock=some k→W.heap.size≤k) (hb:Below W.heap.size W w1):d.R e w1 base (fun k=>ok k∧some k≠v.ownBlock) u xs :=
 R_mono (R_move (R_bound hu) (fun k hk=>hb.block k hk.2.2.1)) (fun k hk=>⟨hk.1,fun he=>by have:=hbase k he.symm;have:=hk.2.2.1;omega⟩)
theorem R_new' (h:d.R e w1 W.heap.size ok v xs) (hlt : ∀ k,u.ownBlock=some k→k<W.heap.size):d.R e w1 W.heap.size (fun k=>ok k∧some k≠u.ownBlock) v xs :=
 R_mono (R_bound h) (fun k hk=>⟨hk.1,fun he=>by have:=hlt k he.symm;have:=hk.2.1;omega⟩)

end
end Kd
theorem seg_get {α:Type} (a seg:List α) (o:Nat) (h:o+seg.length≤a.length) (q:Nat) :
 (a.take o++seg++a.drop (o+seg.length))[q]? =if q<o then a[q]? else if q<o+seg.length then seg[q-o]? else a[q]? :=by
 have hl:(a.take o).length=o:=by rw [List.length_take];omega
 rw [List.append_assoc]
 by_cases h1:q<o
 · rw [if_pos h1,List.getElem?_append_left (by omega),List.getElem?_take,if_pos h1]
 · rw [if_neg h1,List.getElem?_append_right (by omega),hl]
   by_cases h2:q<o+seg.length
   · rw [if_pos h2,List.getElem?_append_left (by omega)]
   · rw [if_neg h2,List.getElem?_append_right (by omega),List.getElem?_drop]
     congr 1
     omega
namespace Kd
section
variable {α:Type} {d:Kd α} {e base g n cap:Nat} {ok okp:Nat→Prop} {W:World} {xs:List α}
end
end Kd
namespace Kd
def fixed {α:Type} (d:Kd α) (w0:World):Kd α where
 sz:=d.sz
 E:= []
 K:=fun _ x cs=>d.K w0 x cs
 M:=fun _ _ _ x cs=>d.K w0 x cs
 K_len:=d.K_len
 K_one:=d.K_one
 K_below:=fun _ h=>h
 K_of_M:=fun h=>h
 M_mono:=fun _ h=>h
 M_bound:=fun h=>h
 M_move:=fun _ h=>h
 M_lower:=fun _ h=>h
def or_ {α:Type} (a b:Kd α) (h:b.sz=a.sz):Kd α where
 sz:=a.sz
 E:=a.E++b.E
 K:=fun w x cs=>a.K w x cs∨b.K w x cs
 M:=fun w base ok x cs=>a.M w base ok x cs∨b.M w base ok x cs
 K_len:=fun hk=>hk.elim a.K_len (fun hk=>(b.K_len hk).trans h)
 K_one:=fun hk=>hk.elim a.K_one b.K_one
 K_below:=fun hb hk=>hk.imp (a.K_below hb) (b.K_below hb)
 K_of_M:=fun hk=>hk.imp a.K_of_M b.K_of_M
 M_mono:=fun hok hk=>hk.imp (a.M_mono hok) (b.M_mono hok)
 M_bound:=fun hk=>hk.imp
  (fun hk=>a.M_mono (fun _ ⟨h1,h2,h3,q,hq,hc⟩=>⟨h1,h2,h3,q,List.mem_append_left _ hq,hc⟩) (a.M_bound hk))
  (fun hk=>b.M_mono (fun _ ⟨h1,h2,h3,q,hq,hc⟩=>⟨h1,h2,h3,q,List.mem_append_right _ hq,hc⟩) (b.M_bound hk))
 M_move:=fun hm hk=>hk.imp (a.M_move hm) (b.M_move hm)
 M_lower:=fun hb hk=>hk.imp (a.M_lower hb) (b.M_lower hb)
section
variable {α:Type} {F:Kd α→Kd α} {sz:Nat} {E:List Nat} {hs : ∀ n,(upto F sz E n).sz=sz} {hE : ∀ n q,q∈(upto F sz E n).E→q∈E}
end
end Kd
namespace Kd
theorem reps_append {α:Type} {R:α→List Value→Prop} {size:Nat} {ps qs:List α} {cs ds:List Value} (h:Reps R size ps cs) (h':Reps R size qs ds):Reps R size (ps++qs) (cs++ds):=by
 refine ⟨by rw [List.length_append,List.length_append,h.1,h'.1,Nat.add_mul],fun j p hj=> ?_⟩
 rcases Nat.lt_or_ge j ps.length with hlt | hge
 · rw [List.getElem?_append_left hlt] at hj
   have hle:j*size+size≤cs.length:=by rw [h.1,← Nat.succ_mul];exact Nat.mul_le_mul_right _ hlt
   rw [List.drop_append_of_le_length (by omega),List.take_append_of_le_length (by rw [List.length_drop];omega)]
   exact h.2 j p hj
 · rw [List.getElem?_append_right hge] at hj
   have h2:=h'.2 (j-ps.length) p hj
   have hle:ps.length*size≤j*size:=Nat.mul_le_mul_right _ hge
   rw [List.drop_append,List.drop_eq_nil_of_le (by rw [h.1];exact hle),List.nil_append,h.1,← Nat.sub_mul]
   exact h2
section
variable {P:Program} {ops:Array Oper} {rest:List Oper} {o:Oper} {a:Act} {Q:Exit→Act→World→Prop} {α:Type}
theorem R_append_rows (d:Kd α) {Rr:α→List Value→Prop} {w0 W:World} (base:Nat) (hgd:o.guard=none) (s x:Operand) (t e:TypeId) (z:Value) (bytes:Nat)
 (ho:o.op= .call {callee:= .builtin .append,args:= #[s,x],argTypes:= #[t,t]})
 (ht:P.underlying t=some (.slice e)) (hinfo:(P.info? e).map (fun i=>(i.zero,i.size,i.bytes))=some (some z,d.sz,bytes)) (hz:z.cells.size=d.sz) (hs0:0<d.sz) (hb0:0<bytes)
 (v:Value) (xs ys:List α) (A:Option Addr) (m c:Nat) (ok okp:Nat→Prop) (hs:a.eval s=v) (hx:a.eval x= .slice A m c)
 (HO:d.R e W base ok v xs) (HR:ReadsRow Rr d.sz W A m ys) (hKM : ∀ x cs,Rr x cs→d.M W base okp x cs) (hokp : ∀ k,okp k→ok k∧some k≠v.ownBlock) (hfresh : ∀ k,W.heap.size≤k→ok k)
 (HB:Below base w0 W) (hbase:base≤W.heap.size) (hl:(xs.length+m)*bytes≤140737488355328)
 (h : ∀ v1 w1,d.R e w1 base ok v1 (xs++ys)→Below base w0 w1→W.grownBy w1 v.ownBlock→(v1.ownBlock=v.ownBlock∨ ∃ b,v1.ownBlock=some b∧W.heap.size≤b)→wpList P ops Q rest (a.put o.dst v1) w1) :
 wpList P ops Q (o::rest) a W:=by
 obtain ⟨i0,hi,hzz⟩:=Option.map_eq_some_iff.1 hinfo
 simp only [Prod.mk.injEq] at hzz
 obtain ⟨hz0,hz1,hz2⟩:=hzz
 have hm:ys.length=m:=HR.1
 have hlen:xs.length+m≤140737488355328:=Nat.le_trans (Nat.le_mul_of_pos_right _ hb0) hl
 obtain ⟨hok,inner,hown,hr⟩:=HO
 have hrun : ∃ v1 w1,(Builtin.append_ #[t,t] o.type #[v, .slice A m c]).run P W= .ok v1 w1∧d.R e w1 base ok v1 (xs++ys)∧W.grownBy w1 v.ownBlock∧(v1.ownBlock=v.ownBlock∨ ∃ b,v1.ownBlock=some b∧W.heap.size≤b):=by
  rcases A with _ | ad
  · have h0:m=0:=by
     rcases Nat.eq_zero_or_pos m with h0 | h0
     · exact h0
     · obtain ⟨ad,h,_⟩:=HR.2.2 h0
       cases h
    subst h0
    obtain rfl:ys= []:=List.eq_nil_of_length_eq_zero hm
    refine ⟨v,W, ?_,by rw [List.append_nil];exact ⟨hok,inner,hown,hr⟩,World.grownBy.refl W _, .inl rfl⟩
    rcases hown.2 with ⟨rfl,hn⟩ | ⟨g,cap,cur,rfl,_,_,hnc,_⟩
    · simp [Builtin.append_,run_underlying ht,sizeOf,typeInfo,hi,Builtin.lenOf,Builtin.firstCells]
    · simp [Builtin.append_,run_underlying ht,sizeOf,typeInfo,hi,Builtin.lenOf,Builtin.firstCells,hnc,storeCells]
  · obtain ⟨news,hnr,hnc⟩:=ReadsRow.inner_ HR
    have hnM:Reps (d.M W base okp) d.sz ys news:=hnr.imp_ (fun p c hp=>hKM p c hp)
    have hone : ∀ u∈news,u.oneCell'=true:=by
     intro u hu
     obtain ⟨q,hq,rfl⟩:=List.mem_iff_getElem.1 hu
     have hql:q/d.sz<ys.length:=by
      rw [Nat.div_lt_iff_lt_mul hs0]
      rw [← hnM.1]
      exact hq
     have hc:=hnM.2 (q/d.sz) _ (List.getElem?_eq_getElem hql)
     refine d.K_one (d.K_of_M hc) _ ?_
     rw [List.mem_iff_getElem?]
     refine ⟨q%d.sz, ?_⟩
     rw [List.getElem?_take,if_pos (Nat.mod_lt _ hs0),List.getElem?_drop,Nat.mul_comm,Nat.div_add_mod,List.getElem?_eq_getElem hq]
    obtain ⟨v1,w1,hrun,h2,hg,_,hat⟩:=run_append_own_at (P:=P) W base t o.type e i0 z d.sz bytes ht hi hz0 hz1 hz2 hz hs0 v xs.length inner hown ad m c news (by rw [hnM.1,hm]) hnc hone (by simp only [maxLen];omega) hl hbase
    have hat':v1.ownBlock=v.ownBlock∨ ∃ b,v1.ownBlock=some b∧W.heap.size≤b:=by
     rcases hat with hat | hat
     · exact .inl hat
     · exact .inr ⟨_,hat,Nat.le_refl _⟩
    have hne : ∀ k,some k≠v.ownBlock→k<W.heap.size→some k≠v1.ownBlock:=by
     intro k hk hlt
     rcases hat' with hat | ⟨b,hb,hle⟩
     · rw [hat];exact hk
     · rw [hb]
       intro he
       injection he with he
       omega
    have step : ∀ {q:α} {c:List Value} {o:Nat→Prop},d.M W base o q c→(∀ k,o k→ok k∧some k≠v.ownBlock)→d.M w1 base (fun k=>ok k∧some k≠v1.ownBlock) q c:=by
     intro q c o hq ho
     have h1:=d.M_move (w1:=w1) (fun k hk=>hg.block k hk.2.2.1 (ho k hk.1).2) (d.M_bound hq)
     exact d.M_mono (fun k hk=>⟨(ho k hk.1).1,hne k (ho k hk.1).2 hk.2.2.1⟩) h1
    refine ⟨v1,w1,hrun,⟨fun k hk=> ?_,inner++news,by rw [List.length_append,hm];exact h2,reps_append (hr.imp_ (fun _ _ hq=>step hq (fun _ hk=>hk))) (hnM.imp_ (fun _ _ hq=>step hq hokp))⟩,hg,hat'⟩
    rcases hat' with hat | ⟨b,hb,hle⟩
    · exact hok k (hat▸hk)
    · rw [hb] at hk
      injection hk with hk
      exact hfresh k (by omega)
 obtain ⟨v1,w1,hr1,h1,hg,hat⟩:=hrun
 refine wpList_plain hgd fun K hK=> ?_
 unfold Oper.wp execOp
 simp only [ho,resolve,invoke,builtin,Sem.run_bind,Sem.run_pure,Result.andThen_ok,List.map_toArray,List.map_cons,List.map_nil,hs,hx,hr1]
 exact hK _ _ (h v1 w1 h1 (HB.grown hg hbase (own_base hown)) hg hat)
end
end Kd
namespace Kd
section
variable {P:Program} {ops:Array Oper} {rest:List Oper} {o:Oper} {a:Act} {Q:Exit→Act→World→Prop} {α:Type}
end
end Kd
theorem add_add (a:Addr) (i j:Nat):(a.add i).add j=a.add (i+j):=by
 unfold Addr.add
 by_cases h1:i=0<;>by_cases h2:j=0<;>simp [h1,h2,Nat.add_assoc]
namespace Kd
section
variable {α:Type} {k:Kd α} {w:World} {A:Option Addr} {xs:List α} {m c:Nat}
end
end Kd
section
variable {P:Program}
end
theorem below_size {w W:World} (h:Below w.heap.size w W):w.heap.size≤W.heap.size:=h.size
theorem below_step {w W w2:World} (h:Below w.heap.size w W) (k:Below W.heap.size W w2):Below w.heap.size w w2:=below_then h h.size k
theorem ReadsInt.nil (W:World) (k:IntKind):ReadsInt W k none ([]:List Int).length []:=⟨rfl,by simp,fun h=>absurd h (Nat.lt_irrefl 0)⟩
theorem ReadsInt.drewN {W:World} {k:IntKind} {A:Option Addr} {n:Nat} {xs:List Int} (h:ReadsInt W k A n xs) (m:Nat):ReadsInt (W.drewN m) k A n xs:=h
theorem below_set {w W:World} {g j:Nat} {v:Value} (h:Below w.heap.size w W) (hg:w.heap.size≤g):Below w.heap.size w (W.setCell ⟨g,j,none⟩ v):=h.setCell hg _
theorem keep_cell {w W:World} {g:Nat} (h:KeepBut w W g none) {a:Addr} {v:Value} (hc:w.cell? a=some v) (hne:a.block≠g):W.cell? a=some v:=by
 have:=h.2 a.block (World.block_lt_of_cell? w a hc) hne (by simp)
 simpa [World.cell?,this] using hc
theorem add_block (a:Addr) (i:Nat):(a.add i).block=a.block:=by unfold Addr.add;split<;>rfl
theorem ReadsOf.nil {α:Type} (enc:α→Value) (d:α) (W:World):ReadsOf enc d W none ([]:List α).length []:=⟨rfl,by simp,fun h=>absurd h (Nat.lt_irrefl 0)⟩
theorem ReadsOf.drewN {α:Type} {enc:α→Value} {d:α} {W:World} {A:Option Addr} {n:Nat} {xs:List α} (h:ReadsOf enc d W A n xs) (m:Nat):ReadsOf enc d (W.drewN m) A n xs:=h
theorem ReadsInt.keep {w W:World} {k:IntKind} {A:Option Addr} {n g:Nat} {xs:List Int} (h:ReadsInt w k A n xs) (hk:KeepBut w W g none) (hf : ∀ ad,A=some ad→0<n→ad.block≠g):ReadsInt W k A n xs :=
 ⟨h.1,h.2.1,fun hn=>by
   obtain ⟨ad,e,hc⟩:=h.2.2 hn
   exact ⟨ad,e,fun j hj=>keep_cell hk (hc j hj) (by rw [add_block];exact hf ad e hn)⟩⟩
theorem ReadsOf.keep {α:Type} {enc:α→Value} {d:α} {w W:World} {A:Option Addr} {n g:Nat} {xs:List α} (h:ReadsOf enc d w A n xs) (hk:KeepBut w W g none) (hf : ∀ ad,A=some ad→0<n→ad.block≠g):ReadsOf enc d W A n xs :=
 ⟨h.1,h.2.1,fun hn=>by
   obtain ⟨ad,e,hc⟩:=h.2.2 hn
   exact ⟨ad,e,fun j hj=>keep_cell hk (hc j hj) (by rw [add_block];exact hf ad e hn)⟩⟩
theorem below_drew1 {base:Nat} {w W:World} (h:Below base w W):Below base w W.drew:=h.drew
namespace Kd
section
variable {α β:Type} {d:Kd α} {d':Kd β} {e e' base base' n:Nat} {ok ok':Nat→Prop} {w W w1 W1:World} {v u:Value} {xs:List α} {ys:List β} {A:Option Addr} {c:Nat}
end
section
variable {α:Type} {enc:α→Value} {h1 : ∀ x,(enc x).oneCell'=true} {w W:World} {A:Option Addr} {n g:Nat} {xs:List α}
end
end Kd
namespace Kd
section
variable {α:Type} {d:Kd α} {e base g:Nat} {ok:Nat→Prop} {w w1:World} {v:Value} {xs:List α} {o:Obj}
end
end Kd
section
variable {P:Program} {ops:Array Oper} {rest:List Oper} {o:Oper} {a:Act} {Q:Exit→Act→World→Prop}
end
namespace Kd
section
variable {α:Type} {enc:α→Value} {h1 : ∀ x,(enc x).oneCell'=true} {e base g n cap:Nat} {ok:Nat→Prop} {W:World} {xs:List α}
end
end Kd
section
variable {P:Program} {ops:Array Oper} {rest:List Oper} {o:Oper} {a:Act} {Q:Exit→Act→World→Prop}
end
namespace Kd
section
variable {α:Type} {enc:α→Value} {h1 : ∀ x,(enc x).oneCell'=true} {e base g n cap:Nat} {ok:Nat→Prop} {W:World} {xs:List α}
end
end Kd
section
variable {P:Program} {ops:Array Oper} {rest:List Oper} {o:Oper} {a:Act} {Q:Exit→Act→World→Prop} {W:World}
theorem gate_dst {N:Tmp} (_hN:o.dst=some N) (h:wpList P ops Q (o::rest) a W):wpList P ops Q (o::rest) a W:=h
end
section
variable {P:Program} {ops:Array Oper} {o:Oper} {a:Act} {Q:Exit→Act→World→Prop} {Kc:Act→World→Prop}
namespace Kd
variable {α:Type}
end Kd
end
section
variable {P:Program} {tmps:Array Value} {w:World}
end
namespace Kd
section
variable {P:Program} {α:Type}
end
section
variable {P:Program} {ops:Array Oper} {rest:List Oper} {o:Oper} {a:Act} {Q:Exit→Act→World→Prop} {Kc:Act→World→Prop} {α:Type}
end
end Kd

end Go.Proofs.YtjocbnjpjihpnaaGreatW.PrintWords

end
section
namespace Go.Proofs.YtjocbnjpjihpnaaGreatW.PrintLast

section
variable {P:Program} {ops:Array Oper} {Q:Exit→Act→World→Prop} {md:Region.Mode} {S:World→Prop} {ds:List Nat}

def Region.reachB (md:Region.Mode) (ops:Array Oper) (i:Nat):Nat→Nat→Bool
 | 0,_=>false
 | fuel+1,d=>match ops[d]? with
   | some o=>o.after.any fun e=>Region.binds md e&&(e.on==i || Region.reachB md ops i fuel e.on)
   | none=>false

def Region.closedB (md:Region.Mode) (ops:Array Oper) (listed:Array Bool):Bool :=
 (List.range ops.size).all fun j=> !listed.getD j false || match ops[j]? with
   | some o=>o.after.all fun e=> !Region.binds md e || listed.getD e.on false
   | none=>true

def Region.lastB (md:Region.Mode) (ops:Array Oper) (listed:Array Bool) (ds:List Nat) (i:Nat):Bool :=
 ds.all fun d=>listed.getD d true || Region.reachB md ops i ops.size d

def ListedClosed (md:Region.Mode) (ops:Array Oper) (listed:Array Bool):Prop :=
 ∀ j oj,ops[j]? =some oj→listed.getD j false=true→ ∀ e∈oj.after,Region.binds md e=true→listed.getD e.on false=true

theorem Region.closedB_spec {listed:Array Bool} (h:Region.closedB md ops listed=true):ListedClosed md ops listed:=by
 intro j oj hj hl e he hb
 have hlt:j<ops.size:=(Array.getElem?_eq_some_iff.1 hj).1
 have h1:=List.all_eq_true.1 h j (List.mem_range.2 hlt)
 simp only [hl,hj,Bool.not_true,Bool.false_or] at h1
 have h2:=Array.all_eq_true_iff_forall_mem.1 h1 e he
 simpa [hb] using h2

theorem ListedClosed.set {listed:Array Bool} {i:Nat} (h:ListedClosed md ops listed) (hi:i∈Region.ready md ops listed):ListedClosed md ops (listed.setIfInBounds i true):=by
 obtain ⟨_,oi,hoi,hall⟩:=mem_ready.1 hi
 intro j oj hj hl e he hb
 by_cases hij:i=j
 · subst hij
   have:oj=oi:=Option.some.inj (hj.symm.trans hoi)
   subst this
   exact getD_set_true (hall e he hb)
 · rw [getD_set_ne false hij] at hl
   exact getD_set_true (h j oj hj hl e he hb)

theorem Region.reach_listed {listed:Array Bool} {i:Nat} (hc:ListedClosed md ops listed) : ∀ (fuel d:Nat),Region.reachB md ops i fuel d=true→listed.getD d false=true→listed.getD i false=true
 | 0,_,h,_=>by simp [Region.reachB] at h
 | fuel+1,d,h,hl=>by
   unfold Region.reachB at h
   cases ho:ops[d]? with
   | none=>rw [ho] at h;simp at h
   | some o =>
     rw [ho] at h
     obtain ⟨e,he,h1⟩:=Array.any_eq_true'.1 h
     simp only [Bool.and_eq_true,Bool.or_eq_true,beq_iff_eq] at h1
     have hle:=hc d o ho hl e he h1.1
     rcases h1.2 with h2 | h2
     · rw [← h2];exact hle
     · exact Region.reach_listed hc fuel e.on h2 hle

theorem Region.reach_not_ready {listed:Array Bool} {i d fuel:Nat} (hc:ListedClosed md ops listed) (hr:Region.reachB md ops i fuel d=true) (hun:listed.getD i true=false):d ∉ Region.ready md ops listed:=by
 intro hd
 obtain ⟨_,o,ho,hall⟩:=mem_ready.1 hd
 have hi:listed.getD i false=true:=by
  cases fuel with
  | zero=>simp [Region.reachB] at hr
  | succ n =>
    unfold Region.reachB at hr
    rw [ho] at hr
    obtain ⟨e,he,h1⟩:=Array.any_eq_true'.1 hr
    simp only [Bool.and_eq_true,Bool.or_eq_true,beq_iff_eq] at h1
    have hle:=hall e he h1.1
    rcases h1.2 with h2 | h2
    · rw [← h2];exact hle
    · exact Region.reach_listed hc n e.on h2 hle
 rcases Nat.lt_or_ge i listed.size with h' | h'
 · simp [h'] at hun hi
   rw [hun] at hi
   cases hi
 · simp [Array.getElem?_eq_none h'] at hun

def wpAnyLast (P:Program) (md:Region.Mode) (ops:Array Oper) (Q:Exit→Act→World→Prop) (S:World→Prop) (ds:List Nat):Nat→Array Bool→Act→World→Prop
 | 0,listed,a,w=>Region.ready md ops listed= []∧Q .normal a w
 | fuel+1,listed,a,w =>
   (Region.ready md ops listed= []→Q .normal a w) ∧
   ∀ i∈Region.ready md ops listed,wpOp P ops Q i (fun a' w'=>(i ∉ ds→S w→S w')∧wpAnyLast P md ops Q S ds fuel (listed.setIfInBounds i true) a' w') a w

theorem wpAnyLast_first {i:Nat} {oi:Oper} {v:Value} (hi:ops[i]? =some oi) (hsel : ∀ (j:Nat) (o:Oper) cs b,ops[j]? =some o→o.op≠ .select cs b)
 (hQ : ∀ c a w,Q (.panic c) (a.put oi.dst v) w→Q (.panic c) a w) (n:Nat) :
 ∀ (fuel:Nat) (listed:Array Bool) (a:Act) (w:World),
   (∀ j oj,ops[j]? =some oj→j≠i→listed.getD j true=false→(∀ e∈oj.after,Region.binds md e=true→e.on≠i)→oi.apart ops oj=true) →
   ListedClosed md ops listed→(∀ d∈ds,listed.getD d true=false→Region.reachB md ops i n d=true) →
   i∈Region.ready md ops listed→YieldsIf P ops S oi v a→S w →
   wpAnyLast P md ops Q S ds fuel (listed.setIfInBounds i true) (a.put oi.dst v) w→wpAnyLast P md ops Q S ds (fuel+1) listed a w:=by
 intro fuel
 induction fuel with
 | zero =>
   intro listed a w _ _ _ hr hy hS H
   refine ⟨fun h=>(by rw [h] at hr;cases hr),fun j hj=> ?_⟩
   by_cases hji:j=i
   · subst hji;exact hy.wpOp hi hS ⟨fun _ h=>h,H⟩
   · have:=ready_mono hj hji
     rw [H.1] at this
     cases this
 | succ fuel ih =>
   intro listed a w hfree hc hd hr hy hS H
   refine ⟨fun h=>(by rw [h] at hr;cases hr),fun j hj=> ?_⟩
   by_cases hji:j=i
   · subst hji;exact hy.wpOp hi hS ⟨fun _ h=>h,H⟩
   · have h1:=H.2 j (ready_mono hj hji)
     obtain ⟨hjun,oj,hoj,hall⟩:=mem_ready.1 hj
     have hiun:=(mem_ready.1 hr).1
     have hnot : ∀ e∈oj.after,Region.binds md e=true→e.on≠i:=fun e he hb heq=>by
      have h1:=hall e he hb
      rw [heq] at h1
      rcases Nat.lt_or_ge i listed.size with h' | h'
      · simp [h'] at hiun h1;rw [hiun] at h1;cases h1
      · simp [Array.getElem?_eq_none h'] at h1
     have hjd:j ∉ ds:=fun hm=>Region.reach_not_ready hc (hd j hm hjun) hiun hj
     have h2:=wpOp_putIf hoj (hfree j oj hoj hji hjun hnot) (fun cs b=>hsel i oi cs b hi) (fun cs b=>hsel j oj cs b hoj) hQ hy h1
     have hfree' : ∀ k ok,ops[k]? =some ok→k≠i→(listed.setIfInBounds j true).getD k true=false →
      (∀ e∈ok.after,Region.binds md e=true→e.on≠i)→oi.apart ops ok=true:=fun k ok hk hki hun hno=>by
      refine hfree k ok hk hki ?_ hno
      by_cases hjk:j=k
      · subst hjk;exact hjun
      · rw [getD_set_ne true hjk] at hun;exact hun
     have hd' : ∀ d∈ds,(listed.setIfInBounds j true).getD d true=false→Region.reachB md ops i n d=true:=fun d hm hun=>by
      refine hd d hm ?_
      by_cases hjk:j=d
      · subst hjk;exact hjun
      · rw [getD_set_ne true hjk] at hun;exact hun
     refine wpOp_mono (fun a' w' h3=>⟨h3.2.1,ih (listed.setIfInBounds j true) a' w' hfree' (hc.set hj) hd' (ready_mono hr (Ne.symm hji)) h3.1 (h3.2.1 hjd hS) ?_⟩) h2
     rw [Array.setIfInBounds_comm _ _ hji]
     exact h3.2.2

theorem wpAnyLast_any {i:Nat} {oi:Oper} {v:Value} (hi:ops[i]? =some oi) (hsel : ∀ (j:Nat) (o:Oper) cs b,ops[j]? =some o→o.op≠ .select cs b)
 (hQ : ∀ c a w,Q (.panic c) (a.put oi.dst v) w→Q (.panic c) a w) :
 ∀ (fuel:Nat) (listed:Array Bool) (a:Act) (w:World),
   (∀ j oj,ops[j]? =some oj→j≠i→listed.getD j true=false→(∀ e∈oj.after,Region.binds md e=true→e.on≠i)→oi.apart ops oj=true) →
   i∈Region.ready md ops listed→Yields P ops oi v a →
   wpAnyLast P md ops Q S ds fuel (listed.setIfInBounds i true) (a.put oi.dst v) w→wpAnyLast P md ops Q S ds (fuel+1) listed a w:=by
 intro fuel
 induction fuel with
 | zero =>
   intro listed a w _ hr hy H
   refine ⟨fun h=>(by rw [h] at hr;cases hr),fun j hj=> ?_⟩
   by_cases hji:j=i
   · subst hji;exact (hy.yieldsIf (S:=fun _=>True)).wpOp hi trivial ⟨fun _ h=>h,H⟩
   · have:=ready_mono hj hji
     rw [H.1] at this
     cases this
 | succ fuel ih =>
   intro listed a w hfree hr hy H
   refine ⟨fun h=>(by rw [h] at hr;cases hr),fun j hj=> ?_⟩
   by_cases hji:j=i
   · subst hji;exact (hy.yieldsIf (S:=fun _=>True)).wpOp hi trivial ⟨fun _ h=>h,H⟩
   · have h1:=H.2 j (ready_mono hj hji)
     obtain ⟨hjun,oj,hoj,hall⟩:=mem_ready.1 hj
     have hiun:=(mem_ready.1 hr).1
     have hnot : ∀ e∈oj.after,Region.binds md e=true→e.on≠i:=fun e he hb heq=>by
      have h1:=hall e he hb
      rw [heq] at h1
      rcases Nat.lt_or_ge i listed.size with h' | h'
      · simp [h'] at hiun h1;rw [hiun] at h1;cases h1
      · simp [Array.getElem?_eq_none h'] at h1
     have h2:=wpOp_put hoj (hfree j oj hoj hji hjun hnot) (fun cs b=>hsel i oi cs b hi) (fun cs b=>hsel j oj cs b hoj) hQ hy h1
     have hfree' : ∀ k ok,ops[k]? =some ok→k≠i→(listed.setIfInBounds j true).getD k true=false →
      (∀ e∈ok.after,Region.binds md e=true→e.on≠i)→oi.apart ops ok=true:=fun k ok hk hki hun hno=>by
      refine hfree k ok hk hki ?_ hno
      by_cases hjk:j=k
      · subst hjk;exact hjun
      · rw [getD_set_ne true hjk] at hun;exact hun
     refine wpOp_mono (fun a' w' h3=>⟨h3.2.1,ih (listed.setIfInBounds j true) a' w' hfree' (ready_mono hr (Ne.symm hji)) h3.1 ?_⟩) h2
     rw [Array.setIfInBounds_comm _ _ hji]
     exact h3.2.2

theorem wpAnyLast_take {i:Nat} {oi:Oper} {v:Value} {fuel:Nat} {listed:Array Bool} {a:Act} {w:World} (hi:ops[i]? =some oi)
 (hs:Region.noSelect ops=true) (hf:Region.free md ops listed i=true) (hr:(Region.ready md ops listed).contains i=true)
 (hc:Region.closedB md ops listed=true) (hl:Region.lastB md ops listed ds i=true)
 (hQ : ∀ c a w,Q (.panic c) (a.put oi.dst v) w→Q (.panic c) a w) (hy:YieldsIf P ops S oi v a) (hS:S w)
 (h:wpAnyLast P md ops Q S ds fuel (listed.setIfInBounds i true) (a.put oi.dst v) w):wpAnyLast P md ops Q S ds (fuel+1) listed a w :=
 wpAnyLast_first hi (Region.noSelect_spec hs) hQ ops.size fuel listed a w (Region.free_spec hi hf) (Region.closedB_spec hc)
  (fun d hm hun=>by have:=List.all_eq_true.1 hl d hm;rw [hun] at this;simpa using this) (by simpa using hr) hy hS h

theorem wpAnyLast_all {rs:List Nat} {fuel:Nat} {listed:Array Bool} {a:Act} {w:World} (hr:Region.ready md ops listed=rs) (hne:rs≠ [])
 (h : ∀ i∈rs,wpOp P ops Q i (fun a' w'=>(i ∉ ds→S w→S w')∧wpAnyLast P md ops Q S ds fuel (listed.setIfInBounds i true) a' w') a w):wpAnyLast P md ops Q S ds (fuel+1) listed a w :=
 ⟨fun h0=>absurd (hr▸h0) hne,hr▸h⟩

end

section
variable {P:Program} {ops:Array Oper} {Q:Exit→Act→World→Prop} {md:Region.Mode} {S:World→Prop} {ds:List Nat}

def AllReadyL (P:Program) (md:Region.Mode) (ops:Array Oper) (Q:Exit→Act→World→Prop) (S:World→Prop) (ds:List Nat) (fuel:Nat) (listed:Array Bool) (a:Act) (w:World) (rs:List Nat):Prop :=
 ∀ i∈rs,wpOp P ops Q i (fun a' w'=>(i ∉ ds→S w→S w')∧wpAnyLast P md ops Q S ds fuel (listed.setIfInBounds i true) a' w') a w
theorem AllReadyL.nil {fuel:Nat} {listed:Array Bool} {a:Act} {w:World} :AllReadyL P md ops Q S ds fuel listed a w []:=fun _ h=>by cases h
theorem AllReadyL.cons {fuel:Nat} {listed:Array Bool} {a:Act} {w:World} {i:Nat} {o:Oper} {rs:List Nat} (ho:ops[i]? =some o) (hd:i ∉ ds)
 (h : ∀ K':Act→World→Prop,Shut (∀ a w,S w→(S w→wpAnyLast P md ops Q S ds fuel (listed.setIfInBounds i true) a w)→K' a w)→if Region.wanted o (yielded ops a.tmps)=true then Oper.wp P o a w K' Q else K' (a.put o.dst undef) w)
 (hs:AllReadyL P md ops Q S ds fuel listed a w rs):AllReadyL P md ops Q S ds fuel listed a w (i::rs):=fun j hj=>by
 rcases List.mem_cons.1 hj with rfl | hj
 · exact wpOp_step ho (fun K' hK=>h K' (fun a w hS hW=>hK a w ⟨fun _ _=>hS,hW hS⟩))
 · exact hs j hj
theorem wpAnyLast_ready {rs:List Nat} {fuel:Nat} {listed:Array Bool} {a:Act} {w:World} (hr:Region.ready md ops listed=rs) (hne:rs≠ [])
 (h:AllReadyL P md ops Q S ds fuel listed a w rs):wpAnyLast P md ops Q S ds (fuel+1) listed a w:=wpAnyLast_all hr hne h
def takeB (md:Region.Mode) (ops:Array Oper) (ds:List Nat) (l l':Array Bool) (i:Nat):Bool :=
 Region.noSelect ops&&Region.free md ops l i&&(Region.ready md ops l).contains i&&Region.closedB md ops l&&Region.lastB md ops l ds i&&(l.setIfInBounds i true==l')
theorem take_ {i:Nat} {N:Option Tmp} {oi:Oper} {v:Value} {fuel:Nat} {l:Array Bool} {a:Act} {w:World} (l':Array Bool) (hi:ops[i]? =some oi) (hN:oi.dst=N) (hc:takeB md ops ds l l' i=true)
 (hQ : ∀ c a w,Q (.panic c) (a.put oi.dst v) w→Q (.panic c) a w) (hy:YieldsIf P ops S oi v a) (hS:S w) {a':Act} (ha:a.put N v=a')
 (h:wpAnyLast P md ops Q S ds fuel l' a' w):wpAnyLast P md ops Q S ds (fuel+1) l a w:=by
 subst ha
 subst hN
 simp only [takeB,Bool.and_eq_true,beq_iff_eq] at hc
 obtain ⟨⟨⟨⟨⟨h1,h2⟩,h3⟩,h4⟩,h5⟩,h6⟩:=hc
 subst h6
 exact wpAnyLast_take hi h1 h2 h3 h4 h5 hQ hy hS h
def anyB (md:Region.Mode) (ops:Array Oper) (l l':Array Bool) (i:Nat):Bool :=
 Region.noSelect ops&&Region.free md ops l i&&(Region.ready md ops l).contains i&&(l.setIfInBounds i true==l')
theorem pure_ {i:Nat} {N:Option Tmp} {oi:Oper} {v:Value} {fuel:Nat} {l:Array Bool} {a:Act} {w:World} (l':Array Bool) (hi:ops[i]? =some oi) (hN:oi.dst=N) (hc:anyB md ops l l' i=true)
 (hQ : ∀ c a w,Q (.panic c) (a.put oi.dst v) w→Q (.panic c) a w) (hy:Yields P ops oi v a) {a':Act} (ha:a.put N v=a')
 (h:wpAnyLast P md ops Q S ds fuel l' a' w):wpAnyLast P md ops Q S ds (fuel+1) l a w:=by
 subst ha
 subst hN
 simp only [anyB,Bool.and_eq_true,beq_iff_eq] at hc
 obtain ⟨⟨⟨h1,h2⟩,h3⟩,h6⟩:=hc
 subst h6
 exact wpAnyLast_any hi (Region.noSelect_spec h1) hQ fuel l a w (Region.free_spec hi h2) (by simpa using h3) hy h
def readyB (md:Region.Mode) (ops:Array Oper) (l l':Array Bool) (i:Nat):Bool:=(Region.ready md ops l== [i])&&(l.setIfInBounds i true==l')
theorem one_ {i:Nat} {N:Option Tmp} {oi:Oper} {fuel:Nat} {l:Array Bool} {a:Act} {w:World} (l':Array Bool) (hi:ops[i]? =some oi) (hN:oi.dst=N) (hc:readyB md ops l l' i=true) (hd:i ∉ ds)
 (h : ∀ K:Act→World→Prop,Shut (∀ a' w',S w'→(S w'→wpAnyLast P md ops Q S ds fuel l' a' w')→K a' w')→if Region.wanted oi (yielded ops a.tmps)=true then Oper.wp P oi a w K Q else K (a.put N undef) w) :
 wpAnyLast P md ops Q S ds (fuel+1) l a w:=by
 subst hN
 simp only [readyB,Bool.and_eq_true,beq_iff_eq] at hc
 obtain ⟨h1,h2⟩:=hc
 subst h2
 exact wpAnyLast_ready h1 (by simp) (AllReadyL.cons hi hd (fun K hK=>h K hK) AllReadyL.nil)
theorem two_ {i j:Nat} {Ni Nj:Option Tmp} {oi oj:Oper} {fuel:Nat} {l:Array Bool} {a:Act} {w:World} (li lj:Array Bool) (hi:ops[i]? =some oi) (hj:ops[j]? =some oj) (hNi:oi.dst=Ni) (hNj:oj.dst=Nj)
 (hc:(Region.ready md ops l== [i,j]&&l.setIfInBounds i true==li&&l.setIfInBounds j true==lj)=true) (hdi:i ∉ ds) (hdj:j ∉ ds)
 (h1 : ∀ K:Act→World→Prop,Shut (∀ a' w',S w'→(S w'→wpAnyLast P md ops Q S ds fuel li a' w')→K a' w')→if Region.wanted oi (yielded ops a.tmps)=true then Oper.wp P oi a w K Q else K (a.put Ni undef) w)
 (h2 : ∀ K:Act→World→Prop,Shut (∀ a' w',S w'→(S w'→wpAnyLast P md ops Q S ds fuel lj a' w')→K a' w')→if Region.wanted oj (yielded ops a.tmps)=true then Oper.wp P oj a w K Q else K (a.put Nj undef) w) :
 wpAnyLast P md ops Q S ds (fuel+1) l a w:=by
 subst hNi
 subst hNj
 simp only [Bool.and_eq_true,beq_iff_eq] at hc
 obtain ⟨⟨h3,h4⟩,h5⟩:=hc
 subst h4
 subst h5
 exact wpAnyLast_ready h3 (by simp) (AllReadyL.cons hi hdi (fun K hK=>h1 K hK) (AllReadyL.cons hj hdj (fun K hK=>h2 K hK) AllReadyL.nil))
theorem three_ {i j k:Nat} {Ni Nj Nk:Option Tmp} {oi oj ok:Oper} {fuel:Nat} {l:Array Bool} {a:Act} {w:World} (li lj lk:Array Bool) (hi:ops[i]? =some oi) (hj:ops[j]? =some oj) (hk:ops[k]? =some ok) (hNi:oi.dst=Ni) (hNj:oj.dst=Nj) (hNk:ok.dst=Nk)
 (hc:(Region.ready md ops l== [i,j,k]&&l.setIfInBounds i true==li&&l.setIfInBounds j true==lj&&l.setIfInBounds k true==lk)=true) (hdi:i ∉ ds) (hdj:j ∉ ds) (hdk:k ∉ ds)
 (h1 : ∀ K:Act→World→Prop,Shut (∀ a' w',S w'→(S w'→wpAnyLast P md ops Q S ds fuel li a' w')→K a' w')→if Region.wanted oi (yielded ops a.tmps)=true then Oper.wp P oi a w K Q else K (a.put Ni undef) w)
 (h2 : ∀ K:Act→World→Prop,Shut (∀ a' w',S w'→(S w'→wpAnyLast P md ops Q S ds fuel lj a' w')→K a' w')→if Region.wanted oj (yielded ops a.tmps)=true then Oper.wp P oj a w K Q else K (a.put Nj undef) w)
 (h3 : ∀ K:Act→World→Prop,Shut (∀ a' w',S w'→(S w'→wpAnyLast P md ops Q S ds fuel lk a' w')→K a' w')→if Region.wanted ok (yielded ops a.tmps)=true then Oper.wp P ok a w K Q else K (a.put Nk undef) w) :
 wpAnyLast P md ops Q S ds (fuel+1) l a w:=by
 subst hNi
 subst hNj
 subst hNk
 simp only [Bool.and_eq_true,beq_iff_eq] at hc
 obtain ⟨⟨⟨h4,h5⟩,h6⟩,h7⟩:=hc
 subst h5
 subst h6
 subst h7
 exact wpAnyLast_ready h4 (by simp) (AllReadyL.cons hi hdi (fun K hK=>h1 K hK) (AllReadyL.cons hj hdj (fun K hK=>h2 K hK) (AllReadyL.cons hk hdk (fun K hK=>h3 K hK) AllReadyL.nil)))
def putAll:Act→List (Tmp × Value)→Act
 | a,[]=>a
 | a,(n,v)::r=>putAll (a.put (some n) v) r
theorem join_ {σ:Type} {fuel:Nat} {l:Array Bool} {a:Act} {w:World} (fuel':Nat) (l':Array Bool) (ns:σ→List (Tmp × Value)) (F:σ→World→Prop)
 (hcont : ∀ s w',F s w'→wpAnyLast P md ops Q S ds fuel' l' (putAll a (ns s)) w')
 (h:(∀ s w',F s w'→wpAnyLast P md ops Q S ds fuel' l' (putAll a (ns s)) w')→wpAnyLast P md ops Q S ds fuel l a w):wpAnyLast P md ops Q S ds fuel l a w:=h hcont
theorem norm_ {fuel:Nat} {l:Array Bool} {a a':Act} {w:World} (ha:a=a') (h:wpAnyLast P md ops Q S ds fuel l a' w):wpAnyLast P md ops Q S ds fuel l a w:=by
 subst ha
 exact h
theorem enters_ {f : FuncId} {fn : Func} (hf : P.funcs[f]? = some fn) (hname : (fn.name == "runtime.NumGoroutine") = false) (hb : fn.body.isSome = true) (args : Array Value) (w : World) : (callFunc f args).run P w = .ok (.enter f args) w := by
 have h1 : fn.name ≠ "runtime.NumGoroutine" := by simpa using hname
 obtain ⟨c,hc⟩:=Option.isSome_iff_exists.1 hb
 simp [callFunc,hf,h1,hc]
theorem goesL_ {rest : List Oper} {oi : Oper} {a : Act} {w : World} (N : Option Tmp) (hd : oi.dst = N) (hg : oi.guard = none) {f : FuncId} {fn : Func} {as : Array Operand} {ts : Array TypeId} (hf : P.funcs[f]? = some fn) (hname : (fn.name == "runtime.NumGoroutine") = false) (hb : fn.body.isSome = true) (args : Array Value)
 (hop:oi.op= .call {callee:= .value (.func f),args:=as,argTypes:=ts}) (hargs:as.map a.eval=args)
 (h:Calls P f args w fun e w'=> ∃ v,e= .returned v∧wpList P ops Q rest (a.put N v) w'):wpList P ops Q (oi::rest) a w:=by
 refine wpList_plain hg fun K hK=> ?_
 have he:=enters_ hf hname hb args w
 have hrun:(execOp a.eval oi).run P w= .ok (.enter f args) w:=by
  unfold execOp
  simp [hop,resolve,Deferred.ofValue,invoke,Act.eval,hargs,he]
 unfold Oper.wp
 rw [hrun,Oper.upon_enter]
 refine h.mono fun e w'' hh=> ?_
 obtain ⟨v,rfl,hk⟩:=hh
 subst hd
 exact hK _ _ hk
theorem i64_w (n:Int):IntKind.i64.wrap n=Go.RowKit.wrap64 n:=by unfold Go.RowKit.wrap64;exact IntKind.wrap_i64 n
theorem i32_w (n:Int):IntKind.i32.wrap n=Go.RowKit.wrap32 n:=by unfold Go.RowKit.wrap32;exact IntKind.wrap_i32 n
end
end Go.Proofs.YtjocbnjpjihpnaaGreatW.PrintLast

end
section
namespace Go.Proofs.YtjocbnjpjihpnaaGreatW.PrintWords
open Go.RowKit
namespace Kd
def tag {α:Type} (f:Nat→Nat) (d:Kd α):Kd (α × Nat) where
 sz:=d.sz
 E:=d.E
 K:=fun w x cs=>d.K w x.1 cs
 M:=fun w base ok x cs=>d.M w base (fun k=>ok k∧f k=x.2) x.1 cs
 K_len:=fun h=>d.K_len h
 K_one:=fun h=>d.K_one h
 K_below:=fun hb h=>d.K_below hb h
 K_of_M:=fun h=>d.K_of_M h
 M_mono:=fun hok h=>d.M_mono (fun k hk=>⟨hok k hk.1,hk.2⟩) h
 M_bound:=fun h=>d.M_mono (fun _ hk=>⟨⟨hk.1.1,hk.2⟩,hk.1.2⟩) (d.M_bound h)
 M_move:=fun hm h=>d.M_move (fun k hk=>hm k hk.1) h
 M_lower:=fun hb h=>d.M_lower hb h
def bare {α:Type} (d:Kd α):Kd α where
 sz:=d.sz
 E:=d.E
 K:=d.K
 M:=fun w base _ x cs=>d.M w base (fun _=>False) x cs
 K_len:=fun h=>d.K_len h
 K_one:=fun h=>d.K_one h
 K_below:=fun hb h=>d.K_below hb h
 K_of_M:=fun h=>d.K_of_M h
 M_mono:=fun _ h=>h
 M_bound:=fun h=>h
 M_move:=fun _ h=>d.M_move (fun _ hk=>hk.elim) h
 M_lower:=fun hb h=>d.M_lower hb h
def raw (sz:Nat):Kd (List Value) where
 sz:=sz
 E:= []
 K:=fun _ x cs=>cs=x∧cs.length=sz∧ ∀ u∈cs,u.oneCell'=true
 M:=fun _ _ _ x cs=>cs=x∧cs.length=sz∧ ∀ u∈cs,u.oneCell'=true
 K_len:=fun h=>h.2.1
 K_one:=fun h=>h.2.2
 K_below:=fun _ h=>h
 K_of_M:=fun h=>h
 M_mono:=fun _ h=>h
 M_bound:=fun h=>h
 M_move:=fun _ h=>h
 M_lower:=fun _ h=>h
def S {α:Type} (d:Kd α) (e:Nat) (w:World) (base:Nat) (ok:Nat→Prop) (v:Value) (xs:List α):Prop:= ∃ f,(tag f d).R e w base ok v xs.zipIdx
section
variable {α β:Type} {d:Kd α} {d':Kd β} {e e':Nat} {w w1 W:World} {base b:Nat} {ok ok' okv oku:Nat→Prop} {u v:Value} {xs:List α} {ys:List β}
end
section
variable {α β:Type} {d:Kd α} {d':Kd β} {e e' g:Nat} {w w1 W:World} {base b:Nat} {ok ok' okv oku:Nat→Prop} {u v:Value} {xs:List α} {ys:List β}
end
section
open Classical in
variable {P:Program} {ops:Array Oper} {rest:List Oper} {o:Oper} {a:Act} {Q:Exit→Act→World→Prop} {Kc:Act→World→Prop} {α:Type}
end
def gap {α:Type} (f:Nat→Nat) (d:Kd α) (i:Nat) (c:List Value):Kd (α × Nat) where
 sz:=d.sz
 E:=d.E
 K:=fun w x cs=>(x.2=i→cs=c∧cs.length=d.sz∧ ∀ u∈cs,u.oneCell'=true)∧(x.2≠i→d.K w x.1 cs)
 M:=fun w base ok x cs=>(x.2=i→cs=c∧cs.length=d.sz∧ ∀ u∈cs,u.oneCell'=true)∧(x.2≠i→d.M w base (fun k=>ok k∧f k=x.2) x.1 cs)
 K_len:=fun {w x cs} h=>by
  by_cases hx:x.2=i
  · exact (h.1 hx).2.1
  · exact d.K_len (h.2 hx)
 K_one:=fun {w x cs} h=>by
  by_cases hx:x.2=i
  · exact (h.1 hx).2.2
  · exact d.K_one (h.2 hx)
 K_below:=fun hb h=>⟨h.1,fun hx=>d.K_below hb (h.2 hx)⟩
 K_of_M:=fun h=>⟨h.1,fun hx=>d.K_of_M (h.2 hx)⟩
 M_mono:=fun hok h=>⟨h.1,fun hx=>d.M_mono (fun k hk=>⟨hok k hk.1,hk.2⟩) (h.2 hx)⟩
 M_bound:=fun h=>⟨h.1,fun hx=>d.M_mono (fun _ hk=>⟨⟨hk.1.1,hk.2⟩,hk.1.2⟩) (d.M_bound (h.2 hx))⟩
 M_move:=fun hm h=>⟨h.1,fun hx=>d.M_move (fun k hk=>hm k hk.1) (h.2 hx)⟩
 M_lower:=fun hb h=>⟨h.1,fun hx=>d.M_lower hb (h.2 hx)⟩
def H {α:Type} (d:Kd α) (e:Nat) (w:World) (base:Nat) (ok:Nat→Prop) (v:Value) (xs:List α) (i:Int) (oki:Nat→Prop) (c:List Value):Prop :=
 (∀ k,oki k→ok k)∧ ∃ f,(gap f d i.toNat c).R e w base (fun k=>ok k∧ ¬ oki k) v xs.zipIdx
section
variable {α β:Type} {d:Kd α} {e e' g n cap:Nat} {w w1 W:World} {base:Nat} {ok ok' oki okp:Nat→Prop} {u v:Value} {xs:List α} {i:Int} {c:List Value}
open Classical in
end
section
variable {P:Program} {ops:Array Oper} {rest:List Oper} {o:Oper} {a:Act} {Q:Exit→Act→World→Prop} {α:Type}
end
end Kd
end Go.Proofs.YtjocbnjpjihpnaaGreatW.PrintWords

end
section
namespace Go.Proofs.YtjocbnjpjihpnaaGreatW.PrintWords
open Go.RowKit
namespace Kd
theorem reps_one {α:Type} {R:α→List Value→Prop} {size:Nat} {ps:List α} {cs:List Value} (h:Reps R size ps cs) (hs0:0<size) (hR : ∀ p c,R p c→ ∀ u∈c,u.oneCell'=true) : ∀ u∈cs,u.oneCell'=true:=by
 intro u hu
 obtain ⟨q,hq,rfl⟩:=List.mem_iff_getElem.1 hu
 have hql:q/size<ps.length:=by
  rw [Nat.div_lt_iff_lt_mul hs0,← h.1]
  exact hq
 refine hR _ _ (h.2 (q/size) _ (List.getElem?_eq_getElem hql)) _ ?_
 rw [List.mem_iff_getElem?]
 refine ⟨q%size, ?_⟩
 rw [List.getElem?_take,if_pos (Nat.mod_lt _ hs0),List.getElem?_drop,Nat.mul_comm,Nat.div_add_mod,List.getElem?_eq_getElem hq]
theorem reps_set {α:Type} {R:α→List Value→Prop} {size:Nat} {ps:List α} {cs:List Value} (h:Reps R size ps cs) {i:Nat} (hi:i<ps.length) {x:α} {seg:List Value} (hx:R x seg) (hl:seg.length=size):Reps R size (ps.set i x) (cs.take (i*size)++seg++cs.drop (i*size+seg.length)):=by
 have hfit:i*size+size≤cs.length:=by rw [h.1,← Nat.succ_mul];exact Nat.mul_le_mul_right _ hi
 refine ⟨?_,fun m p hm=> ?_⟩
 · rw [List.length_set,← h.1]
   simp only [List.length_append,List.length_take,List.length_drop]
   omega
 · have hml:m<ps.length:=by
    have:=(List.getElem?_eq_some_iff.1 hm).1
    rwa [List.length_set] at this
   by_cases hmi:m=i
   · subst hmi
     rw [List.getElem?_set_self hml] at hm
     injection hm with hm
     subst hm
     rw [show ((cs.take (m*size)++seg++cs.drop (m*size+seg.length)).drop (m*size)).take size=seg by
      rw [List.append_assoc,List.drop_left' (by rw [List.length_take];omega),List.take_left' hl]]
     exact hx
   · rw [List.getElem?_set_ne (Ne.symm hmi)] at hm
     have hmf:m*size+size≤cs.length:=by rw [h.1,← Nat.succ_mul];exact Nat.mul_le_mul_right _ hml
     rw [show ((cs.take (i*size)++seg++cs.drop (i*size+seg.length)).drop (m*size)).take size=(cs.drop (m*size)).take size from by
      apply List.ext_getElem?
      intro q
      rw [List.getElem?_take,List.getElem?_take,List.getElem?_drop,List.getElem?_drop,seg_get cs seg _ (by omega)]
      by_cases hq:q<size
      · rw [if_pos hq,if_pos hq]
        rcases Nat.lt_or_gt_of_ne hmi with hlt | hgt
        · have:m*size+size≤i*size:=by rw [← Nat.succ_mul];exact Nat.mul_le_mul_right _ hlt
          rw [if_pos (by omega)]
        · have:i*size+size≤m*size:=by rw [← Nat.succ_mul];exact Nat.mul_le_mul_right _ hgt
          rw [if_neg (by omega),if_neg (by omega)]
      · rw [if_neg hq,if_neg hq]]
     exact h.2 m p hm
def arr {α:Type} (n:Nat) (d:Kd α) (hs:0<d.sz):Kd (List α) where
 sz:=n*d.sz
 E:=d.E
 K:=fun w xs cs=>xs.length=n∧Reps (d.K w) d.sz xs cs
 M:=fun w base ok xs cs=>xs.length=n∧Reps (d.M w base ok) d.sz xs cs
 K_len:=fun h=>by rw [← h.1];exact h.2.1
 K_one:=fun h=>reps_one h.2 hs (fun _ _ hk=>d.K_one hk)
 K_below:=fun hb h=>⟨h.1,h.2.imp_ (fun _ _ hk=>d.K_below hb hk)⟩
 K_of_M:=fun h=>⟨h.1,h.2.imp_ (fun _ _ hk=>d.K_of_M hk)⟩
 M_mono:=fun hok h=>⟨h.1,h.2.imp_ (fun _ _ hk=>d.M_mono hok hk)⟩
 M_bound:=fun h=>⟨h.1,h.2.imp_ (fun _ _ hk=>d.M_bound hk)⟩
 M_move:=fun hm h=>⟨h.1,h.2.imp_ (fun _ _ hk=>d.M_move hm hk)⟩
 M_lower:=fun hb h=>⟨h.1,h.2.imp_ (fun _ _ hk=>d.M_lower hb hk)⟩
section
variable {α:Type} {n:Nat} {d:Kd α} {hs:0<d.sz} {w:World} {base:Nat} {ok:Nat→Prop} {xs:List α} {cs:List Value}
end
section
variable {α:Type} {n:Nat} {enc:α→Value} {h1 : ∀ x,(enc x).oneCell'=true} {hs:0<(scalar enc h1).sz} {w:World} {base:Nat} {ok:Nat→Prop} {xs:List α} {cs:List Value}
end
end Kd
end Go.Proofs.YtjocbnjpjihpnaaGreatW.PrintWords

end
section
namespace Go.Proofs.YtjocbnjpjihpnaaGreatW.PrintWords
open Go.RowKit
namespace Kd
structure Heap {α:Type} (d:Kd α):Prop where
 K : ∀ {w w1:World} {x:α} {cs:List Value},(∀ k,k<w.heap.size→w1.heap[k]? =w.heap[k]?)→d.K w x cs→d.K w1 x cs
theorem cell_heap {w w1:World} (hb : ∀ k,k<w.heap.size→w1.heap[k]? =w.heap[k]?) {a:Addr} {v:Value} (h:w.cell? a=some v):w1.cell? a=some v:=by
 have:=hb a.block (World.block_lt_of_cell? w a h)
 simpa [World.cell?,this] using h
theorem Heap.C {α:Type} {d:Kd α} (hd:Heap d) {w w1:World} {A:Option Addr} {n:Nat} {xs:List α} (hb : ∀ k,k<w.heap.size→w1.heap[k]? =w.heap[k]?) (h:d.C w A n xs):d.C w1 A n xs :=
 ⟨h.1,h.2.1,fun hn=>by
   obtain ⟨ad,e,hc⟩:=h.2.2 hn
   refine ⟨ad,e,fun j p hj=> ?_⟩
   obtain ⟨c,hs,hr,hcell⟩:=hc j p hj
   exact ⟨c,hs,hd.K hb hr,fun i u hu=>cell_heap hb (hcell i u hu)⟩⟩
section
variable {α:Type} {d:Kd α} {e base g n c:Nat} {ok:Nat→Prop} {w w0 W:World} {A:Option Addr} {xs:List α}
end
end Kd
end Go.Proofs.YtjocbnjpjihpnaaGreatW.PrintWords

end
section
namespace Go.Proofs.YtjocbnjpjihpnaaGreatW.PrintWords
open Go.RowKit
def Kept (w W:World) (S:Nat→Prop):Prop:=w.heap.size≤W.heap.size∧ ∀ i,i<w.heap.size→ ¬ S i→W.heap[i]? =w.heap[i]?
section
variable {w W W2:World} {S S2 S':Nat→Prop}
theorem Kept.refl (w:World) (S:Nat→Prop):Kept w w S:=⟨Nat.le_refl _,fun _ _ _=>rfl⟩
theorem Kept.of_below (h:Below w.heap.size w W) (S:Nat→Prop):Kept w W S:=⟨h.size,fun i hi _=>h.block i hi⟩
theorem Kept.mono (h:Kept w W S) (hs : ∀ k,S k→S' k):Kept w W S':=⟨h.1,fun i hi hn=>h.2 i hi (fun hk=>hn (hs i hk))⟩
theorem Kept.then_ (h:Kept w W S) (k:Kept W W2 S2) (hs : ∀ k,S2 k→S k∨w.heap.size≤k):Kept w W2 S :=
 ⟨Nat.le_trans h.1 k.1,fun i hi hn=>(k.2 i (Nat.lt_of_lt_of_le hi h.1) (fun h2=>(hs i h2).elim hn (fun h3=>by omega))).trans (h.2 i hi hn)⟩
theorem Kept.below (h:Kept w W S) (hb:Below W.heap.size W W2):Kept w W2 S:=h.then_ (Kept.of_below hb (fun _=>False)) (fun _ hk=>hk.elim)
theorem Kept.alloc (h:Kept w W S) (o:Obj):Kept w (W.alloc o) S:=h.below (below_alloc (Below.refl _ _) o)
theorem Kept.drew (h:Kept w W S):Kept w W.drew S:=h
theorem Kept.drewN (h:Kept w W S) (m:Nat):Kept w (W.drewN m) S:=h
theorem Kept.setCell (h:Kept w W S) {p:Addr} (hp:S p.block∨w.heap.size≤p.block) (u:Value):Kept w (W.setCell p u) S :=
 h.then_ (S2:=fun k=>k=p.block) ⟨by simp [World.setCell],fun i _ hn=>Below.heap_setCell W p u i hn⟩ (fun k hk=>by rw [hk];exact hp)
theorem Kept.keep {g:Nat} (h:KeepBut w W g none) (k:Kept W W2 S2) (hs : ∀ k,S2 k→w.heap.size≤k):KeepBut w W2 g none :=
 ⟨Nat.le_trans h.1 k.1,fun i hi hg hr=>(k.2 i (Nat.lt_of_lt_of_le hi h.1) (fun h2=>by have:=hs i h2;omega)).trans (h.2 i hi hg hr)⟩
end
namespace Kd
section
variable {α:Type} {d:Kd α} {e base n c:Nat} {ok oki S S2:Nat→Prop} {w w0 W W1 W2:World} {v:Value} {A:Option Addr} {xs:List α} {i:Int} {cs:List Value}
end
end Kd
end Go.Proofs.YtjocbnjpjihpnaaGreatW.PrintWords

end
section
namespace Go.Proofs.YtjocbnjpjihpnaaGreatW.PrintWords
open Go.RowKit
def Foot (P:World→Prop) (W:World) (ok:Nat→Prop):Prop:= ∀ W':World,(∀ k,ok k→k<W.heap.size→W'.heap[k]? =W.heap[k]?)→P W'
theorem heap_lt {W W1:World} {k:Nat} (h:W1.heap[k]? =W.heap[k]?) (hlt:k<W.heap.size):k<W1.heap.size:=by
 rw [Array.getElem?_eq_getElem hlt] at h
 exact (Array.getElem?_eq_some_iff.1 h).1
namespace Foot
variable {P Q:World→Prop} {W W1:World} {ok ok':Nat→Prop}
theorem now (h:Foot P W ok):P W:=h W (fun _ _ _=>rfl)
theorem mono (h:Foot P W ok) (hok : ∀ k,ok k→ok' k):Foot P W ok':=fun W' hW=>h W' (fun k hk hlt=>hW k (hok k hk) hlt)
theorem bound (h:Foot P W ok):Foot P W (fun k=>ok k∧k<W.heap.size):=fun W' hW=>h W' (fun k hk hlt=>hW k ⟨hk,hlt⟩ hlt)
theorem step (h:Foot P W ok) (hm : ∀ k,ok k→k<W.heap.size→W1.heap[k]? =W.heap[k]?):Foot P W1 ok:=fun W' hW=>h W' (fun k hk hlt=>(hW k hk (heap_lt (hm k hk hlt) hlt)).trans (hm k hk hlt))
theorem imp (h:Foot P W ok) (hi : ∀ W',P W'→Q W'):Foot Q W ok:=fun W' hW=>hi W' (h W' hW)
theorem old (h:Foot P W ok) (hb:Below W.heap.size W W1):Foot P W1 (fun k=>ok k∧k<W.heap.size):=(h.bound).step (fun k _ hlt=>hb.block k hlt)
end Foot
namespace Kd
def F {α:Type} (d:Kd α) (W:World) (ok:Nat→Prop) (A:Option Addr) (n:Nat) (xs:List α):Prop:=Foot (fun W=>d.C W A n xs) W ok
def FK {α:Type} (d:Kd α) (W:World) (ok:Nat→Prop) (x:α) (c:List Value):Prop:=Foot (fun W=>d.K W x c) W ok
section
variable {α β:Type} {d:Kd α} {e base n n' cc g N:Nat} {ok ok' okp S:Nat→Prop} {w w0 w1 W W1:World} {A A':Option Addr} {u v v1:Value} {xs:List α} {xs':List β} {d':Kd β} {x:α} {c:List Value}
end
end Kd
end Go.Proofs.YtjocbnjpjihpnaaGreatW.PrintWords

end
section
namespace Go.Proofs.YtjocbnjpjihpnaaGreatW.PrintWords
open Go.RowKit
section
variable {P:Program}
end
namespace Kd
section
variable {P:Program} {ops:Array Oper} {rest:List Oper} {o:Oper} {a:Act} {Q:Exit→Act→World→Prop} {Kc:Act→World→Prop} {α:Type}
end
section
variable {α:Type} {d:Kd α} {e:Nat} {w:World} {base:Nat} {ok:Nat→Prop} {v:Value} {xs:List α}
end
section
variable {P:Program} {ops:Array Oper} {rest:List Oper} {o:Oper} {a:Act} {Q:Exit→Act→World→Prop} {Kc:Act→World→Prop} {α:Type}
end
end Kd
end Go.Proofs.YtjocbnjpjihpnaaGreatW.PrintWords

end
section
namespace Go.Proofs.YtjocbnjpjihpnaaGreatW.PrintWords
open Go.RowKit
namespace Kd
section
variable {α:Type} {d:Kd α} {e base n cc g:Nat} {ok ok' okp S:Nat→Prop} {w w1 W W1:World} {A:Option Addr} {u v v1:Value} {xs:List α} {x:α} {c:List Value}
def N {α:Type} (d:Kd α) (e:Nat) (w:World) (base:Nat) (ok:Nat→Prop) (v:Value) (xs:List α):Prop :=
 (∀ k,v.ownBlock=some k→ok k)∧ ∃ rows:List (List Value),rows.length=xs.length∧(raw d.sz).R e w base (fun k=>some k=v.ownBlock) v rows∧ ∀ (j:Nat) (x:α) (c:List Value),xs[j]? =some x→rows[j]? =some c→FK d w (fun k=>ok k∧some k≠v.ownBlock) x c
end
end Kd
end Go.Proofs.YtjocbnjpjihpnaaGreatW.PrintWords

end
section
namespace Go.Proofs.YtjocbnjpjihpnaaGreatW.PrintWords
open Go.RowKit
namespace Kd
section
variable {α:Type} {d:Kd α} {W:World} {g n:Nat} {S ok:Nat→Prop} {A:Option Addr} {ad:Addr} {xs:List α}
end
end Kd
end Go.Proofs.YtjocbnjpjihpnaaGreatW.PrintWords

end
section
namespace Go.Proofs.YtjocbnjpjihpnaaGreatW.PrintWords
open Go.RowKit
section
variable {w w' u:World} {m B g:Nat} {o:Obj} {row:Option Nat} {S:Nat→Prop} {a:Addr} {v:Value}
end
namespace Kd
section
variable {α:Type} {d:Kd α} {e base n m:Nat} {ok:Nat→Prop} {w w':World} {v:Value} {A:Option Addr} {xs:List α}
end
end Kd
end Go.Proofs.YtjocbnjpjihpnaaGreatW.PrintWords

end
section
namespace Go.Proofs.YtjocbnjpjihpnaaGreatW.PrintWords
open Go.RowKit
section
variable {P:Program} {d:Nat} {xs ys:Array Value} {f:Field} {fs:List Field} {a b:Value} {r s:Bool} {w:World}
end
end Go.Proofs.YtjocbnjpjihpnaaGreatW.PrintWords

end
section
namespace Go.Proofs.YtjocbnjpjihpnaaGreatW.PrintLast
open Go.Proofs.YtjocbnjpjihpnaaGreatW.PrintWords (Aside0)
def needsOf (md:Region.Mode) (o:Oper):List Nat:=(o.after.toList.filter (fun e=>Region.binds md e)).map (fun e=>e.on)
def clashOf (md:Region.Mode) (ops:Array Oper) (i:Nat) (oi:Oper):List Nat:=(List.range ops.size).filter fun j=> !(j==i)&&match ops[j]? with
 | some oj=> !(oj.after.any (fun e=>Region.binds md e&&e.on==i) || oi.apart ops oj)
 | none=>false
def rtab (md:Region.Mode) (ops:Array Oper):Bool × List (List Nat × List Nat):=(Region.noSelect ops,(List.range ops.size).map fun i=>match ops[i]? with
 | some o=>(needsOf md o,clashOf md ops i o)
 | none=>([],[]))
def readyAt (T:List (List Nat × List Nat)) (l:List Bool) (i:Nat):Bool:= !l.getD i true&&match T[i]? with
 | some r=>r.1.all (fun j=>l.getD j false)
 | none=>false
def readyT (T:List (List Nat × List Nat)) (l:List Bool):List Nat:=(List.range T.length).filter (readyAt T l)
def freeT (T:List (List Nat × List Nat)) (l:List Bool) (i:Nat):Bool:=match T[i]? with
 | some r=>r.2.all (fun j=>l.getD j true)
 | none=>false
def closedT (T:List (List Nat × List Nat)) (l:List Bool):Bool:=(List.range T.length).all fun j=> !l.getD j false || match T[j]? with
 | some r=>r.1.all (fun k=>l.getD k false)
 | none=>true
def reachT (T:List (List Nat × List Nat)) (i:Nat):Nat→Nat→Bool
 | 0,_=>false
 | fuel+1,d=>match T[d]? with
   | some r=>r.1.any fun j=>j==i || reachT T i fuel j
   | none=>false
def lastT (T:List (List Nat × List Nat)) (l:List Bool) (ds:List Nat) (i:Nat):Bool:=ds.all fun d=>l.getD d true || reachT T i T.length d
section
variable {md:Region.Mode} {ops:Array Oper} {T:Bool × List (List Nat × List Nat)} {l l' li lj lk:Array Bool} {ds:List Nat} {i j k:Nat}
theorem gd (l:Array Bool) (j:Nat) (b:Bool):l.getD j b=l.toList.getD j b:=by simp [Array.getD_eq_getD_getElem?,List.getD_eq_getElem?_getD]
theorem needs_all (o:Oper) (p:Nat→Bool):o.after.all (fun e=> !Region.binds md e || p e.on)=(needsOf md o).all p:=by
 unfold needsOf
 rw [← Array.all_toList]
 induction o.after.toList with
 | nil=>rfl
 | cons e r ih =>
   rw [List.all_cons,ih,List.filter_cons]
   cases h:Region.binds md e<;>simp
theorem needs_any (o:Oper) (p:Nat→Bool):o.after.any (fun e=>Region.binds md e&&p e.on)=(needsOf md o).any p:=by
 unfold needsOf
 rw [← Array.any_toList]
 induction o.after.toList with
 | nil=>rfl
 | cons e r ih =>
   rw [List.any_cons,ih,List.filter_cons]
   cases h:Region.binds md e<;>simp
theorem rtab_length:(rtab md ops).2.length=ops.size:=by simp [rtab]
theorem rtab_some {o:Oper} (h:ops[i]? =some o):(rtab md ops).2[i]? =some (needsOf md o,clashOf md ops i o):=by
 have hi:=(Array.getElem?_eq_some_iff.1 h).1
 unfold rtab
 rw [List.getElem?_map,List.getElem?_range hi,Option.map_some,h]
theorem rtab_none (h:ops[i]? =none):(rtab md ops).2[i]? =none:=by
 have hi:ops.size≤i:=Array.getElem?_eq_none_iff.1 h
 exact List.getElem?_eq_none (by rw [rtab_length];exact hi)
theorem readyAt_eq:readyAt (rtab md ops).2 l.toList i=(!l.getD i true&&((ops[i]?).map (·.after.all fun e=> !Region.binds md e || l.getD e.on false)).getD false):=by
 unfold readyAt
 rw [gd]
 cases h:ops[i]? with
 | none=>rw [rtab_none h];rfl
 | some o =>
   rw [rtab_some h]
   simp only [Option.map_some,Option.getD_some]
   rw [← needs_all]
   simp only [gd]
theorem ready_eq:Region.ready md ops l=readyT (rtab md ops).2 l.toList:=by
 unfold Region.ready readyT
 rw [rtab_length]
 refine List.filter_congr (fun i _=> ?_)
 rw [readyAt_eq]
theorem free_eq:Region.free md ops l i=freeT (rtab md ops).2 l.toList i:=by
 unfold Region.free freeT
 cases h:ops[i]? with
 | none=>rw [rtab_none h]
 | some oi =>
   rw [rtab_some h]
   simp only [clashOf]
   rw [List.all_filter]
   congr 1
   funext j
   rw [gd]
   cases hj:ops[j]? with
   | none=>cases (j==i)<;>cases (l.toList.getD j true)<;>simp
   | some oj =>
     cases (j==i)<;>cases (l.toList.getD j true)<;>cases (oj.after.any (fun e=>Region.binds md e&&e.on==i) || oi.apart ops oj)<;>simp_all
theorem closed_eq:Region.closedB md ops l=closedT (rtab md ops).2 l.toList:=by
 unfold Region.closedB closedT
 rw [rtab_length]
 congr 1
 funext j
 rw [gd]
 cases h:ops[j]? with
 | none=>rw [rtab_none h]
 | some o =>
   rw [rtab_some h]
   simp only
   rw [← needs_all]
   simp only [gd]
theorem reach_eq : ∀ (fuel d:Nat),Region.reachB md ops i fuel d=reachT (rtab md ops).2 i fuel d
 | 0,_=>rfl
 | fuel+1,d=>by
   unfold Region.reachB reachT
   cases h:ops[d]? with
   | none=>rw [rtab_none h]
   | some o =>
     rw [rtab_some h]
     simp only
     rw [← needs_any]
     congr 1
     funext e
     rw [reach_eq fuel]
theorem last_eq:Region.lastB md ops l ds i=lastT (rtab md ops).2 l.toList ds i:=by
 unfold Region.lastB lastT
 rw [rtab_length]
 congr 1
 funext d
 rw [gd,reach_eq]
theorem readyAt_mem (h:readyAt T.2 l.toList i=true) (hT:rtab md ops=T):(Region.ready md ops l).contains i=true:=by
 subst hT
 rw [ready_eq]
 unfold readyT
 rw [List.contains_iff_mem,List.mem_filter,List.mem_range]
 refine ⟨?_,h⟩
 unfold readyAt at h
 rw [Bool.and_eq_true] at h
 cases hq:(rtab md ops).2[i]? with
 | none=>rw [hq] at h;simp at h
 | some r=>exact (List.getElem?_eq_some_iff.1 hq).1
theorem set_of (h:(l.toList.set i true==l'.toList)=true):(l.setIfInBounds i true==l')=true:=by
 rw [beq_iff_eq] at h ⊢
 apply Array.ext'
 rw [Array.toList_setIfInBounds]
 exact h
def anyT (T:Bool × List (List Nat × List Nat)) (l l':List Bool) (i:Nat):Bool:=T.1&&freeT T.2 l i&&readyAt T.2 l i&&(l.set i true==l')
theorem any_of (hT:rtab md ops=T) (h:anyT T l.toList l'.toList i=true):anyB md ops l l' i=true:=by
 simp only [anyT,Bool.and_eq_true] at h
 obtain ⟨⟨⟨h1,h2⟩,h3⟩,h4⟩:=h
 have h5:=readyAt_mem h3 hT
 have h6:=set_of h4
 subst hT
 simp only [anyB,Bool.and_eq_true]
 exact ⟨⟨⟨h1,by rw [free_eq];exact h2⟩,h5⟩,h6⟩
def takeT (T:Bool × List (List Nat × List Nat)) (ds:List Nat) (l l':List Bool) (i:Nat):Bool:=T.1&&freeT T.2 l i&&readyAt T.2 l i&&closedT T.2 l&&lastT T.2 l ds i&&(l.set i true==l')
theorem take_of (hT:rtab md ops=T) (h:takeT T ds l.toList l'.toList i=true):takeB md ops ds l l' i=true:=by
 simp only [takeT,Bool.and_eq_true] at h
 obtain ⟨⟨⟨⟨⟨h1,h2⟩,h3⟩,h4⟩,h5⟩,h6⟩:=h
 have h7:=readyAt_mem h3 hT
 have h8:=set_of h6
 subst hT
 simp only [takeB,Bool.and_eq_true]
 exact ⟨⟨⟨⟨⟨h1,by rw [free_eq];exact h2⟩,h7⟩,by rw [closed_eq];exact h4⟩,by rw [last_eq];exact h5⟩,h8⟩
theorem one_of (hT:rtab md ops=T) (h:(readyT T.2 l.toList== [i]&&l.toList.set i true==l'.toList)=true):readyB md ops l l' i=true:=by
 simp only [Bool.and_eq_true] at h
 obtain ⟨h1,h2⟩:=h
 subst hT
 simp only [readyB,Bool.and_eq_true]
 exact ⟨by rw [ready_eq];exact h1,set_of h2⟩
def upM (B:List Nat) (d:Nat):List Nat→Nat
 | []=>0
 | n::r=>(2^n ||| (if n<d then B.getD n 0 else 0)) ||| upM B d r
def waitsOk (T:List (List Nat × List Nat)) (B:List Nat):Bool:=(List.range T.length).all fun d=>match T[d]? with
 | some r=>(B.getD d 0 ||| upM B d r.1)==upM B d r.1
 | none=>false
theorem upM_bit {B:List Nat} {d i:Nat} : ∀ {ns:List Nat},(upM B d ns).testBit i=true→ ∃ n∈ns,n=i∨(n<d∧(B.getD n 0).testBit i=true)
 | [],h=>by simp [upM] at h
 | n::r,h=>by
   unfold upM at h
   rw [Nat.testBit_or,Nat.testBit_or,Bool.or_eq_true,Bool.or_eq_true] at h
   rcases h with (h | h) | h
   · rw [Nat.testBit_two_pow] at h
     exact ⟨n,List.mem_cons_self, .inl (by simpa using h)⟩
   · by_cases hn:n<d
     · rw [if_pos hn] at h
       exact ⟨n,List.mem_cons_self, .inr ⟨hn,h⟩⟩
     · rw [if_neg hn] at h
       simp at h
   · obtain ⟨m,hm,h2⟩:=upM_bit h
     exact ⟨m,List.mem_cons_of_mem _ hm,h2⟩
theorem reach_bit {T:List (List Nat × List Nat)} {B:List Nat} (hB:waitsOk T B=true) : ∀ (fuel d:Nat),d<fuel→d<T.length→(B.getD d 0).testBit i=true→reachT T i fuel d=true
 | 0,d,h,_,_=>by omega
 | fuel+1,d,h,hd,hb=>by
   have h1:=List.all_eq_true.1 hB d (List.mem_range.2 hd)
   cases hr:T[d]? with
   | none=>rw [hr] at h1;simp at h1
   | some r =>
     rw [hr] at h1
     simp only [beq_iff_eq] at h1
     have h2:(upM B d r.1).testBit i=true:=by rw [← h1,Nat.testBit_or,hb,Bool.true_or]
     obtain ⟨n,hn,h3⟩:=upM_bit h2
     unfold reachT
     rw [hr]
     simp only
     rw [List.any_eq_true]
     refine ⟨n,hn, ?_⟩
     rcases h3 with rfl | ⟨h4,h5⟩
     · simp
     · rw [reach_bit hB fuel n (by omega) (by omega) h5,Bool.or_true]
def lastW (T:List (List Nat × List Nat)) (B:List Nat) (l:List Bool) (ds:List Nat) (i:Nat):Bool:=ds.all fun d=>l.getD d true || (decide (d<T.length)&&(B.getD d 0).testBit i)
def takeW (T:Bool × List (List Nat × List Nat)) (B:List Nat) (ds:List Nat) (l l':List Bool) (i:Nat):Bool:=T.1&&freeT T.2 l i&&readyAt T.2 l i&&closedT T.2 l&&lastW T.2 B l ds i&&(l.set i true==l')
theorem take_ofW {B:List Nat} (hT:rtab md ops=T) (hB:waitsOk T.2 B=true) (h:takeW T B ds l.toList l'.toList i=true):takeB md ops ds l l' i=true:=by
 refine take_of hT ?_
 simp only [takeW,takeT,Bool.and_eq_true] at h ⊢
 obtain ⟨⟨⟨⟨⟨h1,h2⟩,h3⟩,h4⟩,h5⟩,h6⟩:=h
 refine ⟨⟨⟨⟨⟨h1,h2⟩,h3⟩,h4⟩, ?_⟩,h6⟩
 unfold lastW at h5
 unfold lastT
 rw [List.all_eq_true] at h5 ⊢
 intro d hd
 have h7:=h5 d hd
 rw [Bool.or_eq_true,Bool.and_eq_true,decide_eq_true_eq] at h7
 rcases h7 with h7 | ⟨h8,h9⟩
 · rw [h7,Bool.true_or]
 · rw [reach_bit hB _ d h8 h8 h9,Bool.or_true]
end
end Go.Proofs.YtjocbnjpjihpnaaGreatW.PrintLast

end
section
namespace Go.Proofs.YtjocbnjpjihpnaaGreatW.PrintLast
section
variable {P:Program} {ops:Array Oper} {Q:Exit→Act→World→Prop} {md:Region.Mode} {S:World→Prop} {ds:List Nat} {T:Bool × List (List Nat × List Nat)}
end
end Go.Proofs.YtjocbnjpjihpnaaGreatW.PrintLast

end
section
namespace Go.Proofs.YtjocbnjpjihpnaaGreatW.PrintWords
open Go.RowKit
section
variable {P:Program} {ops:Array Oper} {rest:List Oper} {o:Oper} {a:Act} {Q:Exit→Act→World→Prop} {W:World}
end
end Go.Proofs.YtjocbnjpjihpnaaGreatW.PrintWords

end
section
namespace Go.Proofs.YtjocbnjpjihpnaaGreatW.PrintLast
def up (b:Nat→Bool) (i:Nat):Nat→Bool:=fun j=>if j=i then true else b j
section
variable {P:Program} {ops:Array Oper} {Q:Exit→Act→World→Prop} {md:Region.Mode} {T:Bool × List (List Nat × List Nat)} {B:List Nat} {O:List Nat} {b:Nat→Bool} {i j n:Nat}
def Closed (T:List (List Nat × List Nat)) (O:List Nat) (b:Nat→Bool):Prop:= ∀ d r,T[d]? =some r→O.contains d=true→b d=true→ ∀ n∈r.1,O.contains n=true→b n=true
end
end Go.Proofs.YtjocbnjpjihpnaaGreatW.PrintLast

end
section
namespace Go.Proofs.YtjocbnjpjihpnaaGreatW.PrintWords
open Go.RowKit
end Go.Proofs.YtjocbnjpjihpnaaGreatW.PrintWords
namespace Go.Proofs.YtjocbnjpjihpnaaGreatW.PrintLast
section
variable {ops:Array Oper} {a:Act} {o og:Oper} {g:Nat} {t:Tmp} {u:Bool}
end
end Go.Proofs.YtjocbnjpjihpnaaGreatW.PrintLast

end
section
namespace Go.Proofs.YtjocbnjpjihpnaaGreatW.PrintWords
open Go.RowKit
namespace Kd
section
variable {α:Type} {d:Kd α} {e base g o n cap:Nat} {ok okp:Nat→Prop} {w W:World} {v:Value} {xs:List α}
theorem Q_form (h:d.Q e w base ok v xs) (hp:0<xs.length) : ∃ g o cap,v= .slice (some ⟨g,o,none⟩) xs.length cap∧base≤g∧g<w.heap.size∧ ∃ cells,w.heap[g]? =some (.cells cells e (0,0)):=by
 obtain ⟨h0,inner,hq,hr⟩:=h
 rcases hq.2 with ⟨h1,_⟩ | ⟨g,off,cap,cur,rfl,hb,hh,r⟩
 · omega
 · exact ⟨g,off*d.sz,cap,rfl,hb,blk_lt hh,cur,hh⟩
theorem Q_elem (h:d.Q e W base ok (.slice (some ⟨g,o,none⟩) n cap) xs) (z:α) (i:Int) (h0:0≤i) (h1:i<n) :
 ∃ c,c.length=d.sz∧d.M W base (fun k=>ok k∧k≠g) (xs.getD i.toNat z) c∧(∀ j u,c[j]? =some u→W.cell? ⟨g,o+i.toNat*d.sz+j,none⟩=some u)∧ ∀ j,W.frozen? ⟨g,o+i.toNat*d.sz+j,none⟩=false:=by
 obtain ⟨hn,hnc,hC⟩:=Q_reads' h
 obtain ⟨_,inner,ho,hr⟩:=h
 have hil:i.toNat<xs.length:=by omega
 have hseg:i.toNat*d.sz+d.sz≤inner.length:=by rw [hr.1,← Nat.succ_mul];exact Nat.mul_le_mul_right _ hil
 have hM:=hr.2 i.toNat _ (List.getElem?_eq_getElem hil)
 refine ⟨(inner.drop (i.toNat*d.sz)).take d.sz,by rw [List.length_take,List.length_drop];omega, ?_,fun j u hu=> ?_,fun j=> ?_⟩
 · rw [List.getD_eq_getElem?_getD,List.getElem?_eq_getElem hil]
   exact d.M_mono (fun k hk=>⟨hk.1,fun he=>hk.2 (by rw [he];simp [Value.ownBlock])⟩) hM
 · rw [List.getElem?_take] at hu
   split at hu
   · rw [List.getElem?_drop] at hu
     subst hn
     obtain ⟨ad,he,hc⟩:=q_cells ho (by omega)
     injection he with he
     subst he
     have:=hc _ u hu
     rwa [add_at,← Nat.add_assoc] at this
   · cases hu
 · obtain ⟨_,cells,hc⟩:=q_typed ho g (by simp [Value.ownBlock])
   exact blk_frozen hc _
theorem Q_seg (h:d.Q e W base ok (.slice (some ⟨g,o,none⟩) n cap) xs) (i:Int) (h0:0≤i) (h1:i<n) {c seg:List Value} {j:Nat} (hcl:c.length=d.sz) (hcc : ∀ j u,c[j]? =some u→W.cell? ⟨g,o+i.toNat*d.sz+j,none⟩=some u)
 (hj:j+seg.length≤d.sz) {x':α} (hM:d.M W base okp x' (c.take j++seg++c.drop (j+seg.length))) (hokp : ∀ k,okp k→ok k∧k≠g) :
 d.Q e (W.setCells g (o+i.toNat*d.sz+j) seg) base ok (.slice (some ⟨g,o,none⟩) n cap) (xs.set i.toNat x')∧W.grownBy (W.setCells g (o+i.toNat*d.sz+j) seg) (some g):=by
 obtain ⟨hn,hnc,_⟩:=Q_reads' h
 obtain ⟨hok,inner,ho,hr⟩:=h
 have hil:i.toNat<xs.length:=by omega
 have hseg:i.toNat*d.sz+d.sz≤inner.length:=by rw [hr.1,← Nat.succ_mul];exact Nat.mul_le_mul_right _ hil
 have hin:inner.length=n*d.sz:=by rw [hr.1,hn]
 obtain ⟨ho1,ho2⟩:=ho
 rcases ho2 with ⟨hz,_⟩ | ⟨g',off,cap',cur,hv,hb,hh,hnc',hcm,hcs,ht⟩
 · omega
 injection hv with ha _ hc
 injection ha with ha
 injection ha with hg hoff
 subst hg;subst hc;subst hoff
 have hcap:n*d.sz≤cap*d.sz:=Nat.mul_le_mul_right _ hnc
 have hcs':cur.size=off*d.sz+cap*d.sz:=by rw [hcs,Nat.add_mul]
 have hfit:off*d.sz+i.toNat*d.sz+j+seg.length≤cur.size:=by omega
 obtain ⟨cur',h3,h4,h5⟩:=setCells_row seg (off*d.sz+i.toNat*d.sz+j) W cur hh hfit
 obtain ⟨s1,s2,s3,s4⟩:=setCells_same g seg (off*d.sz+i.toNat*d.sz+j) W
 have hfar : ∀ k,k≠g→(W.setCells g (off*d.sz+i.toNat*d.sz+j) seg).heap[k]? =W.heap[k]? :=fun k hk=>setCells_far seg _ k hk
 rw [← hn] at ht
 have hat : ∀ q,q<n*d.sz→cur.toList[off*d.sz+q]? =inner[q]? :=by
  intro q hq
  rw [← ht,List.getElem?_take,if_pos hq,List.getElem?_drop]
 have hcin : ∀ q,q<d.sz→c[q]? =inner[i.toNat*d.sz+q]? :=by
  intro q hq
  have hq':q<c.length:=by omega
  have h6:=hcc q _ (List.getElem?_eq_getElem hq')
  rw [cell_of_row W g _ cur e (0,0) hh] at h6
  rw [List.getElem?_eq_getElem hq',← h6,← hat _ (by omega),Array.getElem?_toList,Nat.add_assoc]
 refine ⟨⟨hok,inner.take (i.toNat*d.sz+j)++seg++inner.drop (i.toNat*d.sz+j+seg.length),⟨?_, .inr ⟨g,off,cap,cur',by rw [List.length_set,hn],hb,h3,by rw [List.length_set,← hn];exact hnc,hcm,by rw [h4,hcs], ?_⟩⟩, ?_⟩,
  ⟨s1,s2,s3,by rw [s4];exact Nat.le_refl _,fun k _ hk=>hfar k (fun he=>hk (by rw [he]))⟩⟩
 · rw [List.length_set]
   simp only [List.length_append,List.length_take,List.length_drop]
   rw [hr.1] at hseg ⊢
   omega
 · rw [List.length_set,← hn]
   apply List.ext_getElem?
   intro q
   rw [List.getElem?_take,List.getElem?_drop,h5]
   rw [seg_get cur.toList seg (off*d.sz+i.toNat*d.sz+j) (by rw [Array.length_toList];omega) (off*d.sz+q),seg_get inner seg (i.toNat*d.sz+j) (by omega) q]
   by_cases hq:q<n*d.sz
   · rw [if_pos hq]
     by_cases hq1:q<i.toNat*d.sz+j
     · rw [if_pos (by omega),if_pos hq1,hat q hq]
     · rw [if_neg (by omega),if_neg hq1]
       by_cases hq2:q<i.toNat*d.sz+j+seg.length
       · rw [if_pos (by omega),if_pos hq2]
         congr 1
         omega
       · rw [if_neg (by omega),if_neg hq2,hat q hq]
   · rw [if_neg hq,if_neg (by omega),if_neg (by omega),List.getElem?_eq_none (by omega)]
 · refine ⟨?_,fun m p hm=> ?_⟩
   · rw [List.length_set]
     simp only [List.length_append,List.length_take,List.length_drop]
     rw [hr.1] at hseg ⊢
     omega
   · have hml:m<xs.length:=by
      have:=(List.getElem?_eq_some_iff.1 hm).1
      rwa [List.length_set] at this
     have hmfit:m*d.sz+d.sz≤inner.length:=by rw [hr.1,← Nat.succ_mul];exact Nat.mul_le_mul_right _ hml
     have hgo:some g=(Value.slice (some ⟨g,off*d.sz,none⟩) n cap).ownBlock:=by simp [Value.ownBlock]
     by_cases hmi:m=i.toNat
     · subst hmi
       rw [List.getElem?_set_self (by omega)] at hm
       injection hm with hm
       subst hm
       have hcells:((inner.take (i.toNat*d.sz+j)++seg++inner.drop (i.toNat*d.sz+j+seg.length)).drop (i.toNat*d.sz)).take d.sz=c.take j++seg++c.drop (j+seg.length):=by
        apply List.ext_getElem?
        intro q
        rw [List.getElem?_take,List.getElem?_drop,seg_get inner seg _ (by omega),seg_get c seg j (by omega) q]
        by_cases hq:q<d.sz
        · rw [if_pos hq,hcin q hq]
          by_cases hq1:q<j
          · rw [if_pos (by omega),if_pos hq1]
          · rw [if_neg (by omega),if_neg hq1]
            by_cases hq2:q<j+seg.length
            · rw [if_pos (by omega),if_pos hq2]
              congr 1
              omega
            · rw [if_neg (by omega),if_neg hq2]
        · rw [if_neg hq,if_neg (by omega),if_neg (by omega),List.getElem?_eq_none (by omega)]
       rw [hcells]
       refine d.M_mono (fun k hk=> ?_) (d.M_move (w1:=W.setCells g (off*d.sz+i.toNat*d.sz+j) seg) (fun k hk=>hfar k (hokp k hk).2) hM)
       exact ⟨(hokp k hk).1,fun he=>(hokp k hk).2 (by rw [← hgo] at he;injection he)⟩
     · rw [List.getElem?_set_ne (by omega)] at hm
       have hold:=hr.2 m p hm
       have hcells:((inner.take (i.toNat*d.sz+j)++seg++inner.drop (i.toNat*d.sz+j+seg.length)).drop (m*d.sz)).take d.sz=(inner.drop (m*d.sz)).take d.sz:=by
        apply List.ext_getElem?
        intro q
        rw [List.getElem?_take,List.getElem?_take,List.getElem?_drop,List.getElem?_drop,seg_get inner seg _ (by omega)]
        by_cases hq:q<d.sz
        · rw [if_pos hq,if_pos hq]
          rcases Nat.lt_or_gt_of_ne hmi with hlt | hgt
          · have:m*d.sz+d.sz≤i.toNat*d.sz:=by rw [← Nat.succ_mul];exact Nat.mul_le_mul_right _ hlt
            rw [if_pos (by omega)]
          · have:i.toNat*d.sz+d.sz≤m*d.sz:=by rw [← Nat.succ_mul];exact Nat.mul_le_mul_right _ hgt
            rw [if_neg (by omega),if_neg (by omega)]
        · rw [if_neg hq,if_neg hq]
       rw [hcells]
       refine d.M_move (fun k hk=>hfar k (fun he=>hk.2 (by rw [he];exact hgo))) hold
end
section
variable {α:Type} {enc:α→Value} {h1 : ∀ x,(enc x).oneCell'=true} {e base g o n cap:Nat} {ok:Nat→Prop} {W:World} {xs:List α}
theorem Q_cell (d:α) (h:(scalar enc h1).Q e W base ok (.slice (some ⟨g,o,none⟩) n cap) xs) (i:Int) (h0:0≤i) (hi:i<n):W.cell? ⟨g,o+i.toNat,none⟩=some (enc (rdOf d xs i))∧W.frozen? ⟨g,o+i.toNat,none⟩=false:=by
 obtain ⟨c,_,hM,hcc,hf⟩:=Q_elem h d i h0 hi
 have hM':c= [enc (xs.getD i.toNat d)]:=hM
 subst hM'
 have h2:=hcc 0 _ rfl
 have h3:=hf 0
 rw [show (scalar enc h1).sz=1 from rfl,Nat.mul_one,Nat.add_zero] at h2 h3
 exact ⟨h2,h3⟩
theorem Q_putg (h:(scalar enc h1).Q e W base ok (.slice (some ⟨g,o,none⟩) n cap) xs) (i:Int) (h0:0≤i) (hi:i<n) (x:α):(scalar enc h1).Q e (W.setCell ⟨g,o+i.toNat,none⟩ (enc x)) base ok (.slice (some ⟨g,o,none⟩) n cap) (xs.set i.toNat x)∧W.grownBy (W.setCell ⟨g,o+i.toNat,none⟩ (enc x)) (some g):=by
 have hp:0<xs.length:=by have:=(Q_reads' h).1;omega
 obtain ⟨c,hcl,_,hcc,_⟩:=Q_elem h (xs[0]'hp) i h0 hi
 have h2:=Q_seg h i h0 hi (c:=c) (seg:= [enc x]) (j:=0) (okp:=fun _=>False) (x':=x) hcl hcc (Nat.le_refl 1) (by
  have hl:c.length=1:=hcl
  show c.take 0++ [enc x]++c.drop (0+1)= [enc x]
  rw [List.drop_eq_nil_of_le (by omega)]
  rfl) (fun _ hk=>hk.elim)
 rw [show (scalar enc h1).sz=1 from rfl,Nat.mul_one,Nat.add_zero] at h2
 exact h2
end
end Kd
end Go.Proofs.YtjocbnjpjihpnaaGreatW.PrintWords

end
section
namespace Go.Proofs.YtjocbnjpjihpnaaGreatW.PrintWords
open Go.RowKit
namespace Kd
section
variable {α:Type} {d:Kd α} {e base n cap g:Nat} {ok ok' okp:Nat→Prop} {w w1 W:World} {v v1:Value} {xs ys:List α}
end
section
variable {P:Program} {ops:Array Oper} {rest:List Oper} {o:Oper} {a:Act} {Q:Exit→Act→World→Prop} {Kc:Act→World→Prop} {α:Type}
end
end Kd
end Go.Proofs.YtjocbnjpjihpnaaGreatW.PrintWords

end
section
namespace Go.Proofs.YtjocbnjpjihpnaaGreatW.PrintMore
open Go.RowKit Go.Proofs.YtjocbnjpjihpnaaGreatW.PrintWords
namespace Kd
open Go.Proofs.YtjocbnjpjihpnaaGreatW.PrintWords.Kd
end Kd

namespace Kd
open Go.Proofs.YtjocbnjpjihpnaaGreatW.PrintWords.Kd
section
variable {α:Type} {d:Kd α} {e base g N:Nat} {ok:Nat→Prop} {W w1:World} {u v:Value} {xs:List α}
end
end Kd
theorem max2_int (k k':IntKind) (x y:Int):Builtin.max2 (.int k x) (.int k' y)=pure (.int k (if x<y then y else x)):=by simp only [Builtin.max2,gt_iff_lt]
theorem min2_int (k k':IntKind) (x y:Int):Builtin.min2 (.int k x) (.int k' y)=pure (.int k (if y<x then y else x)):=by simp only [Builtin.min2]
theorem max_two (ats:Array TypeId) (ty:TypeId) (a b:Value):Builtin.max_ ats ty #[a,b]=(Builtin.max2 a b >>= fun s=>pure s):=by simp only [Builtin.max_,List.foldlM_cons,List.foldlM_nil]
theorem min_two (ats:Array TypeId) (ty:TypeId) (a b:Value):Builtin.min_ ats ty #[a,b]=(Builtin.min2 a b >>= fun s=>pure s):=by simp only [Builtin.min_,List.foldlM_cons,List.foldlM_nil]
theorem max_three (ats:Array TypeId) (ty:TypeId) (a b c:Value):Builtin.max_ ats ty #[a,b,c]=(Builtin.max2 a b >>= fun s=>Builtin.max2 s c >>= fun s=>pure s):=by simp only [Builtin.max_,List.foldlM_cons,List.foldlM_nil]
theorem min_three (ats:Array TypeId) (ty:TypeId) (a b c:Value):Builtin.min_ ats ty #[a,b,c]=(Builtin.min2 a b >>= fun s=>Builtin.min2 s c >>= fun s=>pure s):=by simp only [Builtin.min_,List.foldlM_cons,List.foldlM_nil]
theorem max_four (ats:Array TypeId) (ty:TypeId) (a b c d:Value):Builtin.max_ ats ty #[a,b,c,d]=(Builtin.max2 a b >>= fun s=>Builtin.max2 s c >>= fun s=>Builtin.max2 s d >>= fun s=>pure s):=by simp only [Builtin.max_,List.foldlM_cons,List.foldlM_nil]
theorem min_four (ats:Array TypeId) (ty:TypeId) (a b c d:Value):Builtin.min_ ats ty #[a,b,c,d]=(Builtin.min2 a b >>= fun s=>Builtin.min2 s c >>= fun s=>Builtin.min2 s d >>= fun s=>pure s):=by simp only [Builtin.min_,List.foldlM_cons,List.foldlM_nil]
end Go.Proofs.YtjocbnjpjihpnaaGreatW.PrintMore
namespace Go.Proofs.YtjocbnjpjihpnaaGreatW.PrintWords
open Go.RowKit
section
variable {P:Program} {ops:Array Oper} {rest:List Oper} {o:Oper} {a:Act} {Q:Exit→Act→World→Prop} {W:World}
theorem gate_callee {f:FuncId} {as:Array Operand} {ts:Array TypeId} (_ho:o.op= .call {callee:= .value (.func f),args:=as,argTypes:=ts}) (h:wpList P ops Q (o::rest) a W):wpList P ops Q (o::rest) a W:=h
theorem gate_builtin {b:Builtin} {xs:Array Operand} {ts:Array TypeId} (_ho:o.op= .call {callee:= .builtin b,args:=xs,argTypes:=ts}) (h:wpList P ops Q (o::rest) a W):wpList P ops Q (o::rest) a W:=h
end
def mx (a b:Int):Int:=if a<b then b else a
def mn (a b:Int):Int:=if b<a then b else a
def shl (k:IntKind) (x y:Int):Int:=k.wrap (x*2^min y.toNat k.bits)
def shr (k:IntKind) (x y:Int):Int:=x/2^min y.toNat k.bits
namespace Kd
section
variable {α:Type} {d:Kd α} {e base:Nat} {ok:Nat→Prop} {W w1:World} {v:Value} {xs:List α}
end
section
variable {α:Type} {d:Kd α} {e base g n cap:Nat} {ok oki okp:Nat→Prop} {W:World} {xs:List α} {i:Int} {c:List Value}
end
section
variable {α:Type} {d:Kd α} {e base b b' g N:Nat} {ok ok1:Nat→Prop} {W W2 w1:World} {u v:Value} {xs ys:List α} {S:Nat→Prop}
end
end Kd
end Go.Proofs.YtjocbnjpjihpnaaGreatW.PrintWords
namespace Go.Proofs.YtjocbnjpjihpnaaGreatW.PrintWords
open Go.RowKit
namespace Kd
def V {α:Type} (d:Kd α) (_e:Nat) (W:World) (_base:Nat) (ok:Nat→Prop) (v:Value) (xs:List α):Prop:= ∃ A c,v= .slice A xs.length c∧xs.length≤c∧F d W ok A xs.length xs
section
variable {α β:Type} {d:Kd α} {e base base' n m c g N' lo hi:Nat} {ok ok' S:Nat→Prop} {w W w1:World} {A:Option Addr} {ad:Addr} {u v v1:Value} {xs:List α}
end
end Kd
end Go.Proofs.YtjocbnjpjihpnaaGreatW.PrintWords

end
section
set_option linter.unusedVariables false
set_option linter.unusedSimpArgs false
namespace Go.Proofs.YtjocbnjpjihpnaaGreatW.PrintWords
open Go.RowKit
theorem cut_rows_len {α:Type} {Rr:α→List Value→Prop} {sz:Nat} {w:World} {A:Option Addr} {n m:Nat} {xs:List α} (h:n=m) (H:ReadsRow Rr sz w A n xs):ReadsRow Rr sz w A m xs:=h▸H
namespace Kd
section
variable {P:Program} {ops:Array Oper} {rest:List Oper} {o:Oper} {a:Act} {Q:Exit→Act→World→Prop} {W:World} {Kc:Act→World→Prop}
variable {α:Type}
theorem R_makecap_row (d:Kd α) (base e:Nat) (z:Value) (hz:z.cells.size=d.sz) (hs0:0<d.sz) (z0:α) {ok okp:Nat→Prop} (hzero:d.M W base okp z0 z.cells.toList) (hok : ∀ k,okp k→ok k) (hfresh:ok W.heap.size)
 (n c:Nat) (hnc:n≤c) (hm:c≤9223372036854775807) (hbase:base≤W.heap.size) :
 d.R e (W.alloc (.cells (madeCells z.cells (c*d.sz)) e)) base ok (.slice (some ⟨W.heap.size,0,none⟩) n c) (List.replicate n z0):=by
 have hrep:=reps_made (R:=d.M W base okp) hz hs0 hzero c
 have hR:d.R e (W.alloc (.cells (madeCells z.cells (c*d.sz)) e)) base ok (.slice (some ⟨W.heap.size,0,none⟩) c c) (List.replicate c z0):=by
  refine ⟨fun k hk=> ?_,(madeCells z.cells (c*d.sz)).toList, ?_, ?_⟩
  · have:W.heap.size=k:=by simpa [Value.ownBlock] using hk
    subst this
    exact hfresh
  · have h2:=World.ownsRow_lit (base:=base) (e:=e) (size:=d.sz) W (madeCells z.cells (c*d.sz)) c hbase (by simpa [maxLen] using hm) (by simpa using hrep.1)
    simpa using h2
  · refine hrep.imp_ (fun p c' hp=>d.M_mono (fun k hk=>⟨hok k hk.1,fun he=> ?_⟩) (M_below (d.M_bound hp) (below_alloc (Below.refl _ _) _)))
    have h3:k=W.heap.size:=by simpa [Value.ownBlock] using he
    have:=hk.2.2.1
    omega
 have h:=R_take (m:=n) hR (by simpa using hnc)
 rwa [List.take_replicate,Nat.min_eq_left hnc] at h
theorem R_makecap (d:Kd α) {w0 W:World} (base e:Nat) (hgd:o.guard=none) {N:Tmp} (hd:o.dst=some N) (t:TypeId) (x y:Operand) (ho:o.op= .makeSlice t x y) (n c:Int) (hx:a.eval x= .int .i64 n) (hy:a.eval y= .int .i64 c)
 (ht:P.underlying t=some (.slice e)) (z:Value) (bytes:Nat) (hinfo:(P.info? e).map (fun i=>(i.zero,i.size,i.bytes))=some (some z,d.sz,bytes)) (hz:z.cells.size=d.sz) (hs0:0<d.sz) (hb0:0<bytes)
 (z0:α) {ok okp:Nat→Prop} (hzero:d.M W base okp z0 z.cells.toList) (hok : ∀ k,okp k→ok k) (hfresh:ok W.heap.size) (h0:0≤n) (hnc:n≤c) (hl:c.toNat*bytes≤281474976710656) (HB:Below base w0 W) (hbase:base≤W.heap.size)
 (h : ∀ v1 w1,d.R e w1 base ok v1 (List.replicate n.toNat z0)→Below base w0 w1→W.grownBy w1 none→(∃ b,v1.ownBlock=some b∧W.heap.size≤b)→wpList P ops Q rest (a.put o.dst v1) w1):wpList P ops Q (o::rest) a W:=by
 obtain ⟨m,rfl⟩:=Int.eq_ofNat_of_zero_le h0
 obtain ⟨q,rfl⟩:=Int.eq_ofNat_of_zero_le (Int.le_trans h0 hnc)
 simp only [Int.toNat_natCast] at hl h
 obtain ⟨i0,hi,hzz⟩:=Option.map_eq_some_iff.1 hinfo
 simp only [Prod.mk.injEq] at hzz
 obtain ⟨hz0,hz1,hz2⟩:=hzz
 have hm:q≤281474976710656:=Nat.le_trans (Nat.le_mul_of_pos_right _ hb0) hl
 have hr:=run_make (P:=P) W t e i0 z ht hi hz0 .i64 .i64 (m:Int) (q:Int) (by omega) (by omega)
  (by
    have h3:((i0.bytes*q:Nat):Int)≤281474976710656:=by rw [hz2,Nat.mul_comm];omega
    rwa [Int.natCast_mul] at h3) (by omega)
 simp only [Int.toNat_natCast] at hr
 rw [hz1] at hr
 have hrun:(execOp a.eval o).run P W= .ok (.value (.slice (some ⟨W.heap.size,0,none⟩) m q)) (W.alloc (.cells (madeCells z.cells (q*d.sz)) e)):=by
  simp [execOp,ho,hx,hy,hr]
 exact event_run hgd hrun (h _ _ (R_makecap_row d base e z hz hs0 z0 hzero hok hfresh m q (by omega) (by omega) hbase) (HB.alloc hbase _) (World.grownBy_alloc W _ none) ⟨W.heap.size,by simp [Value.ownBlock],Nat.le_refl _⟩)
end
end Kd
end Go.Proofs.YtjocbnjpjihpnaaGreatW.PrintWords

end
section
namespace Go.Proofs.YtjocbnjpjihpnaaGreatW.PrintWords
theorem Reps.one {α:Type} {R:α→List Value→Prop} {ps:List α} {cs:List Value} {p:α} {v:Value} (hp:R p [v]) (h:Reps R 1 ps cs):Reps R 1 (p::ps) (v::cs):=by
 refine ⟨by simp [h.1],fun j q hq=> ?_⟩
 cases j with
 | zero =>
   simp only [List.getElem?_cons_zero,Option.some.injEq] at hq
   subst hq
   simpa using hp
 | succ j =>
   simp only [List.getElem?_cons_succ] at hq
   have h1:=h.2 j q hq
   simpa [Nat.mul_one] using h1
theorem Reps.front {α:Type} {R:α→List Value→Prop} {size:Nat} {ps:List α} {cs c all:List Value} {p:α} (hp:R p c) (hc:c.length=size) (h:Reps R size ps cs) (ha:c++cs=all):Reps R size (p::ps) all:=by
 subst ha
 refine ⟨by rw [List.length_append,hc,h.1,List.length_cons,Nat.succ_mul,Nat.add_comm],fun j q hq=> ?_⟩
 cases j with
 | zero =>
   simp only [List.getElem?_cons_zero,Option.some.injEq] at hq
   subst hq
   rw [Nat.zero_mul,List.drop_zero,List.take_append_of_le_length (by omega),List.take_of_length_le (by omega)]
   exact hp
 | succ j =>
   simp only [List.getElem?_cons_succ] at hq
   have h1:=h.2 j q hq
   rw [Nat.succ_mul,List.drop_append,List.drop_of_length_le (by rw [hc];exact Nat.le_add_left _ _),List.nil_append,hc,Nat.add_sub_cancel]
   exact h1
theorem Reps.c2 {α:Type} {R:α→List Value→Prop} {ps:List α} {cs:List Value} {p:α} {va vb:Value} (hp:R p [va,vb]) (h:Reps R 2 ps cs):Reps R 2 (p::ps) (va::vb::cs):=Reps.front hp rfl h rfl
theorem Reps.c3 {α:Type} {R:α→List Value→Prop} {ps:List α} {cs:List Value} {p:α} {va vb vc:Value} (hp:R p [va,vb,vc]) (h:Reps R 3 ps cs):Reps R 3 (p::ps) (va::vb::vc::cs):=Reps.front hp rfl h rfl
theorem Reps.c4 {α:Type} {R:α→List Value→Prop} {ps:List α} {cs:List Value} {p:α} {va vb vc vd:Value} (hp:R p [va,vb,vc,vd]) (h:Reps R 4 ps cs):Reps R 4 (p::ps) (va::vb::vc::vd::cs):=Reps.front hp rfl h rfl
theorem Reps.c5 {α:Type} {R:α→List Value→Prop} {ps:List α} {cs:List Value} {p:α} {va vb vc vd ve:Value} (hp:R p [va,vb,vc,vd,ve]) (h:Reps R 5 ps cs):Reps R 5 (p::ps) (va::vb::vc::vd::ve::cs):=Reps.front hp rfl h rfl
theorem Reps.c6 {α:Type} {R:α→List Value→Prop} {ps:List α} {cs:List Value} {p:α} {va vb vc vd ve vf:Value} (hp:R p [va,vb,vc,vd,ve,vf]) (h:Reps R 6 ps cs):Reps R 6 (p::ps) (va::vb::vc::vd::ve::vf::cs):=Reps.front hp rfl h rfl
theorem Reps.c7 {α:Type} {R:α→List Value→Prop} {ps:List α} {cs:List Value} {p:α} {va vb vc vd ve vf vg:Value} (hp:R p [va,vb,vc,vd,ve,vf,vg]) (h:Reps R 7 ps cs):Reps R 7 (p::ps) (va::vb::vc::vd::ve::vf::vg::cs):=Reps.front hp rfl h rfl
theorem Reps.c10 {α:Type} {R:α→List Value→Prop} {ps:List α} {cs:List Value} {p:α} {va vb vc vd ve vf vg vh vi vj:Value} (hp:R p [va,vb,vc,vd,ve,vf,vg,vh,vi,vj]) (h:Reps R 10 ps cs):Reps R 10 (p::ps) (va::vb::vc::vd::ve::vf::vg::vh::vi::vj::cs):=Reps.front hp rfl h rfl
end Go.Proofs.YtjocbnjpjihpnaaGreatW.PrintWords

end
section
namespace Go.Proofs.YtjocbnjpjihpnaaGreatW.PrintMore
open Go.RowKit Go.Proofs.YtjocbnjpjihpnaaGreatW.PrintWords Go.Proofs.YtjocbnjpjihpnaaGreatW.PrintLast
inductive Grows:World→World→Prop where
 | refl (w:World):Grows w w
 | alloc {w w':World} (h:Grows w w') (o:Obj):Grows w (w'.alloc o)
 | drewN {w w':World} (h:Grows w w') (n:Nat):Grows w (w'.drewN n)
 | drew {w w':World} (h:Grows w w'):Grows w w'.drew
class Nx (w w':World):Prop where
 g:Grows w w'
instance {w:World} :Nx w w:=⟨.refl w⟩
instance {w w':World} {o:Obj} [h:Nx w w']:Nx w (w'.alloc o):=⟨.alloc h.g o⟩
instance {w w':World} {n:Nat} [h:Nx w w']:Nx w (w'.drewN n):=⟨.drewN h.g n⟩
instance {w w':World} [h:Nx w w']:Nx w w'.drew:=⟨.drew h.g⟩
theorem st {α:Type} {d:Kd α} {e:Nat} {w w':World} {base:Nat} {ok:Nat→Prop} {v:Value} {xs:List α} (r:d.R e w base ok v xs) [h:Nx w w']:d.R e w' base ok v xs:=by
 obtain ⟨g⟩:=h
 induction g with
 | refl=>exact r
 | alloc _ o ih=>exact Kd.R_alloc ih o
 | drewN _ n ih=>exact Kd.R_drewN ih n
 | drew _ ih=>exact Kd.R_drew ih
theorem cs {α:Type} {d:Kd α} {w w':World} {xs:List α} {A:Option Addr} {n:Nat} (r:d.C w A n xs) [h:Nx w w']:d.C w' A n xs:=by
 obtain ⟨g⟩:=h
 induction g with
 | refl=>exact r
 | alloc _ o ih=>exact Kd.C_alloc ih o
 | drewN _ m ih=>exact Kd.C_drewN ih m
 | drew _ ih=>exact Kd.C_drew ih
theorem bb {w0 w w':World} (r:Below w0.heap.size w0 w) [h:Nx w w']:Below w0.heap.size w0 w':=by
 obtain ⟨g⟩:=h
 induction g with
 | refl=>exact r
 | alloc _ o ih=>exact below_alloc ih o
 | drewN _ n ih=>exact pw_below_drewN ih n
 | drew _ ih=>exact below_drew1 ih
theorem hbb {p:Prop} (h:p:=by repeat (first | (with_reducible first | exact HB.out | apply below_alloc | apply pw_below_drewN | apply below_drew1 | refine below_set ?_ (Aside0.out (by assumption))) | exact HB.out)):p:=h
theorem lx {p:Prop} (h:p:=by (try simp only [List.map_toArray,List.map_cons,List.map_nil]);first | done | rfl | (simp only [List.length_drop,List.length_take];rfl) | (simp only [*];done)):p:=h
theorem er {p:Prop} (h:p:=by first | rfl | (simp [errW_none,errW_some]<;>rfl) | (simp [*,errW_none,errW_some]<;>rfl)):p:=h
section
variable {w:World} {g:Nat} {t:TypeId} {c0 c1 c2 c3 c4 c5:Value}
end
section
variable {P:Program} {md:Region.Mode} {ops:Array Oper} {Q:Exit→Act→World→Prop} {S:World→Prop} {ds:List Nat} {T:Bool × List (List Nat × List Nat)}
theorem pu (i:Nat) (N:Option Tmp) {oi:Oper} {v:Value} {fuel:Nat} {l:Array Bool} {a a':Act} {w:World} (hT:Aside0 (rtab md ops=T))
 (h:wpAnyLast P md ops Q S ds fuel (l.setIfInBounds i true) a' w)
 (hi:ops[i]? =some oi:=by rfl) (hN:oi.dst=N:=by rfl) (hc:anyT T l.toList (l.setIfInBounds i true).toList i=true:=by kernel_rfl)
 (hQ : ∀ c a w,Q (.panic c) (a.put oi.dst v) w→Q (.panic c) a w:=by exact fun _ _ _ h=>h)
 (hy:Yields P ops oi v a:=by exact Or.inl ⟨by rfl,by intro w';go_simp;with_reducible rfl⟩)
 (ha:a.put N v=a':=by simp only [Act.put,List.setIfInBounds_toArray,List.set_cons_zero,List.set_cons_succ,i64_w,i32_w];rfl):wpAnyLast P md ops Q S ds (fuel+1) l a w :=
 pure_ _ hi hN (any_of hT.out hc) hQ hy ha h
theorem ta (i:Nat) (N:Option Tmp) {oi:Oper} {v:Value} {fuel:Nat} {l:Array Bool} {a a':Act} {w:World} {B:List Nat} (hT:Aside0 (rtab md ops=T)) (hB:Aside0 (waitsOk T.2 B=true)) (hS:S w)
 (h:wpAnyLast P md ops Q S ds fuel (l.setIfInBounds i true) a' w)
 (hi:ops[i]? =some oi:=by rfl) (hN:oi.dst=N:=by rfl) (hc:takeW T B ds l.toList (l.setIfInBounds i true).toList i=true:=by kernel_rfl)
 (hQ : ∀ c a w,Q (.panic c) (a.put oi.dst v) w→Q (.panic c) a w:=by exact fun _ _ _ h=>h)
 (hy:YieldsIf P ops S oi v a:=by exact Or.inl ⟨by rfl,by intro w' hs;(repeat (have s:=hs.1;replace hs:=hs.2));go_simp;with_reducible rfl⟩)
 (ha:a.put N v=a':=by simp only [Act.put,List.setIfInBounds_toArray,List.set_cons_zero,List.set_cons_succ,i64_w,i32_w];rfl):wpAnyLast P md ops Q S ds (fuel+1) l a w :=
 take_ _ hi hN (take_ofW hT.out hB.out hc) hQ hy hS ha h
theorem nm {fuel:Nat} {l:Array Bool} {a a':Act} {w:World} (h:wpAnyLast P md ops Q S ds fuel l a' w)
 (ha:a=a':=by show Act.put _ _ _=_;simp only [Act.put,List.setIfInBounds_toArray,List.set_cons_zero,List.set_cons_succ,i64_w,i32_w];rfl):wpAnyLast P md ops Q S ds fuel l a w:=norm_ ha h
theorem on (i:Nat) (N:Option Tmp) {oi:Oper} {fuel:Nat} {l:Array Bool} {a:Act} {w:World} (hT:Aside0 (rtab md ops=T))
 (h : ∀ K:Act→World→Prop,Shut (∀ a' w',S w'→(S w'→wpAnyLast P md ops Q S ds fuel (l.setIfInBounds i true) a' w')→K a' w')→if Region.wanted oi (yielded ops a.tmps)=true then Oper.wp P oi a w K Q else K (a.put N undef) w)
 (hi:ops[i]? =some oi:=by rfl) (hN:oi.dst=N:=by rfl) (hc:(readyT T.2 l.toList== [i]&&l.toList.set i true==(l.setIfInBounds i true).toList)=true:=by kernel_rfl) (hd:i ∉ ds:=by decide):wpAnyLast P md ops Q S ds (fuel+1) l a w :=
 one_ _ hi hN (one_of hT.out hc) hd h
end
section
variable {a b c d e f g h i j k l m P:Prop}
end
end Go.Proofs.YtjocbnjpjihpnaaGreatW.PrintMore

end
section
namespace Go.Proofs.YtjocbnjpjihpnaaGreatW.PrintWords
open Go.ChangeShapes Go.WideShapes
end Go.Proofs.YtjocbnjpjihpnaaGreatW.PrintWords

end
section
/- Maps from numbers to numbers,as rows of pairs. -/
namespace Go.Proofs.YtjocbnjpjihpnaaGreatW.Abs
def mget:List (Int × Int)→Int→Int
 | [],_=>0
 | p::l,n=>if p.1=n then p.2 else mget l n
def mput:List (Int × Int)→Int→Int→List (Int × Int)
 | [],n,v=> [(n,v)]
 | p::l,n,v=>if p.1=n then (n,v)::l else p::mput l n v
end Go.Proofs.YtjocbnjpjihpnaaGreatW.Abs

end
section
namespace Go.Proofs.YtjocbnjpjihpnaaGreatW.Abs
open Go.RowKit Go.Proofs.YtjocbnjpjihpnaaGreatW.PrintWords Go.Proofs.YtjocbnjpjihpnaaGreatW.PrintLast Go.Proofs.YtjocbnjpjihpnaaGreatW.PrintMore
set_option linter.unusedVariables false
set_option linter.unusedSectionVars false

inductive Ty where
 | int (k:IntKind) | bool | str | row (e:TypeId) (t:Ty) | cons (a b:Ty)
 deriving DecidableEq
@[reducible] def T:Ty→Type
  | .int _=>Int
  | .bool=>Bool
  | .str=>ByteArray
  | .row _ t=>List (T t)
  | .cons a b=>T a × T b
def kd:(t:Ty)→Kd (T t)
 | .int k=>Kd.int k
 | .bool=>Kd.bool
 | .str=>Kd.string
 | .row e t=>Kd.slice e (kd t)
 | .cons a b=>Kd.pair (kd a) (kd b)
def dflt:(t:Ty)→T t
 | .int _=>(0:Int)
 | .bool=>false
 | .str=>(⟨#[]⟩:ByteArray)
 | .row _ _=> []
 | .cons a b=>(dflt a,dflt b)
def Ty.size:Ty→Nat
 | .cons a b=>a.size+b.size
 | _=>1
theorem kd_sz : ∀ t:Ty,(kd t).sz=t.size
 | .int _=>rfl
 | .bool=>rfl
 | .str=>rfl
 | .row _ _=>rfl
 | .cons a b=>by show (kd a).sz+(kd b).sz=a.size+b.size;rw [kd_sz a,kd_sz b]
inductive AC where
 | ro (t:Ty) (x:T t)
 | nils | nilp
 | own (j:Nat)
 | ptr (j o:Nat)
 | aptr (j:Nat)
 | elt (j:Nat) (i:Int) (o sz:Nat)
 | rel (t:Ty) (x:T t)
 | junk
inductive AV where
 | val (cs:List AC)
 | tup (ts:List (List AC))
 | junk
 | un
inductive Lq where
 | mine | lent | kept
 deriving DecidableEq
inductive AB where
 | cells (q:Lq) (e:TypeId) (cs:List AC)
 | row (q:Lq) (e:TypeId) (t:Ty) (xs:List (T t))
 | fro (e:TypeId) (t:Ty) (xs:List (T t))
 | map (xs:List (Int × Int))
 | used
 | gone
def isGone:AB→Bool
 | .gone=>true
 | _=>false
def lv (hp:List AB) (j:Nat):Prop:= ∃ b,hp[j]? =some b∧isGone b=false
def All2 {α β:Type} (R:α→β→Prop):List α→List β→Prop
 | [],[]=>True
 | a::l,b::m=>R a b∧All2 R l m
 | _,_=>False
theorem All2.imp {α β:Type} {R S:α→β→Prop} (h : ∀ a b,R a b→S a b) : ∀ {l:List α} {m:List β},All2 R l m→All2 S l m
 | [],[],_=>trivial
 | _::_,_::_,k=>⟨h _ _ k.1,All2.imp h k.2⟩
 | [],_::_,k=>k.elim
 | _::_,[],k=>k.elim
theorem All2.len {α β:Type} {R:α→β→Prop} : ∀ {l:List α} {m:List β},All2 R l m→l.length=m.length
 | [],[],_=>rfl
 | _::_,_::_,k=>congrArg (· +1) (All2.len k.2)
 | [],_::_,k=>k.elim
 | _::_,[],k=>k.elim
theorem All2.get {α β:Type} {R:α→β→Prop} : ∀ {l:List α} {m:List β},All2 R l m→ ∀ {i:Nat} {a:α},l[i]? =some a→ ∃ b,m[i]? =some b∧R a b
 | [],[],_,i,a,h=>by simp at h
 | x::l,y::m,k,0,a,h=>⟨y,rfl,by simp at h;exact h▸k.1⟩
 | x::l,y::m,k,i+1,a,h=>by
   simp only [List.getElem?_cons_succ] at h ⊢
   exact All2.get k.2 h
 | [],_::_,k,_,_,_=>k.elim
 | _::_,[],k,_,_,_=>k.elim
theorem All2.take {α β:Type} {R:α→β→Prop} : ∀ {l:List α} {m:List β} (n:Nat),All2 R l m→All2 R (l.take n) (m.take n)
 | [],[],n,_=>by simp [All2]
 | _::_,_::_,0,_=>trivial
 | _::_,_::_,n+1,k=>⟨k.1,All2.take n k.2⟩
 | [],_::_,_,k=>k.elim
 | _::_,[],_,k=>k.elim
theorem All2.drop {α β:Type} {R:α→β→Prop} : ∀ {l:List α} {m:List β} (n:Nat),All2 R l m→All2 R (l.drop n) (m.drop n)
 | [],[],n,_=>by simp [All2]
 | _::_,_::_,0,k=>k
 | _::_,_::_,n+1,k=>All2.drop n k.2
 | [],_::_,_,k=>k.elim
 | _::_,[],_,k=>k.elim
theorem All2.app {α β:Type} {R:α→β→Prop} : ∀ {l l':List α} {m m':List β},All2 R l m→All2 R l' m'→All2 R (l++l') (m++m')
 | [],_,[],_,_,h=>h
 | _::_,_,_::_,_,k,h=>⟨k.1,All2.app k.2 h⟩
 | [],_,_::_,_,k,_=>k.elim
 | _::_,_,[],_,k,_=>k.elim
theorem All2.set {α β:Type} {R:α→β→Prop} : ∀ {l:List α} {m:List β} {a:α} {b:β} (i:Nat),All2 R l m→R a b→All2 R (l.set i a) (m.set i b)
 | [],[],_,_,_,_,_=>by simp [All2]
 | _::_,_::_,_,_,0,k,h=>⟨h,k.2⟩
 | _::_,_::_,_,_,i+1,k,h=>⟨k.1,All2.set i k.2 h⟩
 | [],_::_,_,_,_,k,_=>k.elim
 | _::_,[],_,_,_,k,_=>k.elim
theorem All2.mem {α β:Type} {R:α→β→Prop} : ∀ {l:List α} {m:List β},All2 R l m→ ∀ b∈m,∃ a∈l,R a b
 | [],[],_,_,h=>by simp at h
 | x::l,y::m,k,b,h=>by
   rcases List.mem_cons.1 h with rfl | h
   · exact ⟨x,List.mem_cons_self,k.1⟩
   · obtain ⟨a,ha,hr⟩:=All2.mem k.2 b h
     exact ⟨a,List.mem_cons_of_mem _ ha,hr⟩
 | [],_::_,k,_,_=>k.elim
 | _::_,[],k,_,_=>k.elim
def Stab (U:Nat→Prop) (w:World) (p:World→Prop):Prop:= ∀ W:World,w.heap.size≤W.heap.size→(∀ k,k<w.heap.size→ ¬ U k→W.heap[k]? =w.heap[k]?)→p W
structure Move (U:Nat→Prop) (w w':World) (U':Nat→Prop):Prop where
 size:w.heap.size≤w'.heap.size
 block : ∀ k,k<w.heap.size→ ¬ U k→w'.heap[k]? =w.heap[k]?
 less : ∀ k,k<w.heap.size→U' k→U k
theorem Stab.move {U U':Nat→Prop} {w w':World} {p:World→Prop} (h:Stab U w p) (m:Move U w w' U'):Stab U' w' p:=fun W hs hb =>
 h W (Nat.le_trans m.size hs) (fun k hk hU=>(hb k (Nat.lt_of_lt_of_le hk m.size) (fun q=>hU (m.less k hk q))).trans (m.block k hk hU))
theorem Stab.now {U:Nat→Prop} {w:World} {p:World→Prop} (h:Stab U w p):p w:=h w (Nat.le_refl _) (fun _ _ _=>rfl)
theorem Stab.imp {U:Nat→Prop} {w:World} {p q:World→Prop} (h:Stab U w p) (k : ∀ W,p W→q W):Stab U w q:=fun W hs hb=>k W (h W hs hb)
theorem Move.refl {U:Nat→Prop} (w:World):Move U w w U:=⟨Nat.le_refl _,fun _ _ _=>rfl,fun _ _ h=>h⟩
def blk:Value→Option Nat
 | .slice (some a) _ _=>some a.block
 | .pointer (some a)=>some a.block
 | .map (some b)=>some b
 | _=>none
def ref:Value→Value
 | .tuple us=>us.getD 0 undef
 | v=>v
def Kp (ν ν':Nat→Value) (j:Nat):Prop:=ν' j=ν j∨ ∃ a n c,ν j= .slice a n c∧ν' j= .tuple #[ν j]
theorem Kp.same {ν ν':Nat→Value} {j:Nat} (h:ν' j=ν j):Kp ν ν' j:= .inl h
theorem Kp.ref {ν ν':Nat→Value} {j:Nat} (h:Kp ν ν' j):Abs.ref (ν' j)=Abs.ref (ν j):=by
 rcases h with h | ⟨a,n,c,h1,h2⟩
 · rw [h]
 · rw [h2,h1];rfl
theorem Kp.ptr {ν ν':Nat→Value} {j:Nat} {a:Option Addr} (h:Kp ν ν' j) (hp:ν j= .pointer a):ν' j= .pointer a:=by
 rcases h with h | ⟨a,n,c,h1,h2⟩
 · rw [h,hp]
 · rw [hp] at h1;cases h1
def mkV:List Value→Value
 | [x]=>x
 | vs=> .agg vs.toArray
def Rd (U:Nat→Prop) (w:World):(t:Ty)→T t→List Value→Prop
 | .int k,x,cs=>cs= [.int k x]
 | .bool,x,cs=>cs= [.bool x]
 | .str,x,cs=>cs= [.string x]
 | .row _ t,xs,cs=> ∃ A c,cs= [.slice A (List.length xs) c]∧List.length xs≤c∧List.length xs≤9223372036854775807∧(0<List.length xs→ ∃ ad:Addr,A=some ad∧ ∀ (j:Nat) (p:T t),(xs:List (T t))[j]? =some p→ ∃ c',Rd U w t p c'∧ ∀ (i:Nat) (u:Value),c'[i]? =some u→Stab U w (fun W=>W.cell? (ad.add (j*t.size+i))=some u))
 | .cons a b,x,cs=> ∃ c0 c1,cs=c0++c1∧Rd U w a x.1 c0∧Rd U w b x.2 c1
theorem Rd.move {U U':Nat→Prop} {w w':World} (m:Move U w w' U') : ∀ {t:Ty} {x:T t} {cs:List Value},Rd U w t x cs→Rd U' w' t x cs
 | .int _,_,_,h=>h
 | .bool,_,_,h=>h
 | .str,_,_,h=>h
 | .row _ t,xs,cs,⟨A,c,h1,h2,h3,h4⟩=>⟨A,c,h1,h2,h3,fun hn=>by
    obtain ⟨ad,e,hc⟩:=h4 hn
    refine ⟨ad,e,fun j p hp=> ?_⟩
    obtain ⟨c',q1,q2⟩:=hc j p hp
    exact ⟨c',Rd.move m q1,fun i u hu=>(q2 i u hu).move m⟩⟩
 | .cons a b,x,cs,⟨c0,c1,h1,h2,h3⟩=>⟨c0,c1,h1,Rd.move m h2,Rd.move m h3⟩
theorem Rd.K {U:Nat→Prop} {w:World} : ∀ {t:Ty} {x:T t} {cs:List Value},Rd U w t x cs→(kd t).K w x cs
 | .int _,_,_,h=>h
 | .bool,_,_,h=>h
 | .str,_,_,h=>h
 | .row _ t,xs,cs,⟨A,c,h1,h2,h3,h4⟩=>⟨A,c,h1,h2,rfl,h3,fun hn=>by
    obtain ⟨ad,e,hc⟩:=h4 hn
    refine ⟨ad,e,fun j p hp=> ?_⟩
    obtain ⟨c',q1,q2⟩:=hc j p hp
    have hK:=Rd.K q1
    exact ⟨c',(kd t).K_len hK,hK,fun i u hu=>by rw [kd_sz];exact (q2 i u hu).now⟩⟩
 | .cons a b,x,cs,⟨c0,c1,h1,h2,h3⟩=>⟨c0,c1,h1,Rd.K h2,Rd.K h3⟩
theorem add_at (g o i:Nat):(⟨g,o,none⟩:Addr).add i=⟨g,o+i,none⟩:=by
 unfold Addr.add
 split
 · rename_i h;subst h;rfl
 · rfl
structure St extends World where
 io:List Nat
 fx:List (Nat × Value)
def Mine (s:St):Lq→Nat→Prop
 | .mine,g=>s.heap.size≤g
 | _,g=>s.heap.size≤g∨g∈s.io
def bs (s:St):Lq→Nat
 | .mine=>s.heap.size
 | _=>0
structure Since (s:St) (w:World):Prop where
 os:w.os=s.os
 tape:w.tape=s.tape
 output:w.output=s.output
 size:s.heap.size≤w.heap.size
 block : ∀ k,k<s.heap.size→k ∉ s.io→w.heap[k]? =s.heap[k]?
theorem Since.step {s:St} {w w':World} (h:Since s w) (k:Below w.heap.size w w'):Since s w' :=
 ⟨k.os.trans h.os,k.tape.trans h.tape,k.output.trans h.output,Nat.le_trans h.size k.size,fun i hi hio=>(k.block i (Nat.lt_of_lt_of_le hi h.size)).trans (h.block i hi hio)⟩
theorem Mine.ne {s:St} {q:Lq} {g k:Nat} (h:Mine s q g) (hk:k<s.heap.size) (hio:k ∉ s.io):k≠g:=by
 rintro rfl
 cases q with
 | mine=>exact absurd hk (Nat.not_lt.2 h)
 | lent=>exact h.elim (fun z=>absurd hk (Nat.not_lt.2 z)) hio
 | kept=>exact h.elim (fun z=>absurd hk (Nat.not_lt.2 z)) hio
theorem Mine.any {s:St} {q:Lq} {g:Nat} (h:Mine s q g):s.heap.size≤g∨g∈s.io:=by
 cases q with
 | mine=>exact .inl h
 | lent=>exact h
 | kept=>exact h
theorem Mine.new {s:St} {q:Lq} {g:Nat} (h:s.heap.size≤g):Mine s q g:=by
 cases q with
 | mine=>exact h
 | lent=>exact .inl h
 | kept=>exact .inl h
theorem bs_le {s:St} {q:Lq} {g:Nat} (h:Mine s q g):bs s q≤g:=by
 cases q with
 | mine=>exact h
 | lent=>exact Nat.zero_le _
 | kept=>exact Nat.zero_le _
theorem bs_top {s:St} {q:Lq} {g:Nat} (h:s.heap.size≤g):bs s q≤g:=bs_le (Mine.new h)
section
variable (U0:Nat→Prop) (ν:Nat→Value) (L:Nat→Prop) (s:St) (w:World)
def Un (k:Nat):Prop:=U0 k∨ ∃ j,L j∧blk (ν j)=some k
def RelC:AC→Value→Prop
 | .ro t x,v=>t.size=1∧Rd (Un U0 ν L) w t x [v]
 | .nils,v=>v= .slice none 0 0
 | .nilp,v=>v= .pointer none
 | .own j,v=>L j∧v=ref (ν j)
 | .ptr j o,v=>L j∧ ∃ g,ν j= .pointer (some ⟨g,0,none⟩)∧v= .pointer (some ⟨g,o,none⟩)
 | .aptr j,v=>L j∧ ∃ g n c,ref (ν j)= .slice (some ⟨g,0,none⟩) n c∧v= .pointer (some ⟨g,0,none⟩)
 | .elt j i o sz,v=>L j∧ ∃ g n c,ref (ν j)= .slice (some ⟨g,0,none⟩) n c∧(0≤i∧i.toNat<n)∧v= .pointer (some ⟨g,i.toNat*sz+o,none⟩)
 | .rel t x,v=> ∃ ad cs,v= .pointer (some ad)∧Rd (Un U0 ν L) w t x cs∧ ∀ i u,cs[i]? =some u→Stab (Un U0 ν L) w (fun W=>W.cell? (ad.add i)=some u)
 | .junk,v=>v.oneCell'=true
def RelV:AV→Value→Prop
 | .val cs,v=> ∃ vs,v=mkV vs∧All2 (RelC U0 ν L w) cs vs
 | .tup ts,v=> ∃ us:List Value,v= .tuple us.toArray∧All2 (fun cs u=> ∃ vs,u=mkV vs∧All2 (RelC U0 ν L w) cs vs) ts us
 | .junk,_=>True
 | .un,v=>v=undef
def RelB (j:Nat):AB→Prop
 | .cells q e cs=> ∃ g vs,ν j= .pointer (some ⟨g,0,none⟩)∧Mine s q g∧w.heap[g]? =some (.cells vs.toArray e (0,0))∧All2 (RelC U0 ν L w) cs vs
 | .row q e t xs=>(∃ inner,w.ownsRow (bs s q) e (kd t).sz (ν j) xs.length inner∧Reps (fun x c=>Rd (Un U0 ν L) w t x c) (kd t).sz xs inner)∧ ∀ k,blk (ν j)=some k→Mine s q k
 | .fro e t xs=> ∃ v,ν j= .tuple #[v]∧Rd (Un U0 ν L) w (.row e t) xs [v]
 | .map xs=> ∃ g es c,ν j= .map (some g)∧s.heap.size≤g∧w.heap[g]? =some (.map es c)∧es.toList.map (fun e=>(e.key,e.val))=xs.map fun p=>(Value.int .i64 p.1,Value.int .i64 p.2)
 | .used=> ∃ v,ν j= .tuple #[v]∧v.oneCell'=true
 | .gone=>False
end
def isFx:AB→Bool
 | .cells .kept _ _ | .row .kept _ _ _=>true
 | _=>false
def FxOk (s:St) (ν:Nat→Value) (hp:List AB):Prop:= ∀ p∈s.fx,ν p.1=p.2∧ ∃ b,hp[p.1]? =some b∧isFx b=true
structure Inv (U0:Nat→Prop) (ν:Nat→Value) (tm:List AV) (hp:List AB) (w0:St) (a:Act) (w:World):Prop where
 size:a.tmps.size=tm.length
 tm : ∀ i x,tm[i]? =some x→RelV U0 ν (lv hp) w x (a.tmps.getD i undef)
 mem : ∀ j b,hp[j]? =some b→isGone b=false→RelB U0 ν (lv hp) w0 w j b
 dis : ∀ i j,i≠j→lv hp i→lv hp j→ ∀ k,blk (ν i)=some k→blk (ν j)≠some k
 fr:Since w0 w
 fx:FxOk w0 ν hp
 defers:a.defers= []
section
variable {U0:Nat→Prop} {ν ν':Nat→Value} {L L':Nat→Prop} {w w':World}
theorem RelC.move (m:Move (Un U0 ν L) w w' (Un U0 ν' L')) (hL : ∀ j,L j→L' j∧Kp ν ν' j) : ∀ {c:AC} {v:Value},RelC U0 ν L w c v→RelC U0 ν' L' w' c v
 | .ro t x,v,h=>⟨h.1,h.2.move m⟩
 | .nils,v,h=>h
 | .nilp,v,h=>h
 | .own j,v,h=>⟨(hL j h.1).1,h.2.trans (hL j h.1).2.ref.symm⟩
 | .ptr j o,v,⟨hl,g,h1,h2⟩=>⟨(hL j hl).1,g,(hL j hl).2.ptr h1,h2⟩
 | .aptr j,v,⟨hl,g,n,c,h1,h2⟩=>⟨(hL j hl).1,g,n,c,(hL j hl).2.ref.trans h1,h2⟩
 | .elt j i o sz,v,⟨hl,g,n,c,h1,h2⟩=>⟨(hL j hl).1,g,n,c,(hL j hl).2.ref.trans h1,h2⟩
 | .rel t x,v,⟨ad,cs,h1,h2,h3⟩=>⟨ad,cs,h1,h2.move m,fun i u hu=>(h3 i u hu).move m⟩
 | .junk,v,h=>h
theorem RelV.move (m:Move (Un U0 ν L) w w' (Un U0 ν' L')) (hL : ∀ j,L j→L' j∧Kp ν ν' j) : ∀ {x:AV} {v:Value},RelV U0 ν L w x v→RelV U0 ν' L' w' x v
 | .val cs,v,⟨vs,h1,h2⟩=>⟨vs,h1,h2.imp fun _ _ h=>RelC.move m hL h⟩
 | .tup ts,v,⟨us,h1,h2⟩=>⟨us,h1,h2.imp fun _ _ ⟨vs,q1,q2⟩=>⟨vs,q1,q2.imp fun _ _ h=>RelC.move m hL h⟩⟩
 | .junk,_,_=>trivial
 | .un,_,h=>h
theorem RelB.move {s:St} {j:Nat} (m:Move (Un U0 ν L) w w' (Un U0 ν' L')) (hL : ∀ j,L j→L' j∧Kp ν ν' j) (hj:ν' j=ν j) (hk : ∀ k,blk (ν j)=some k→w'.heap[k]? =w.heap[k]?) : ∀ {b:AB},RelB U0 ν L s w j b→RelB U0 ν' L' s w' j b
 | .cells q e cs,⟨g,vs,h1,h2,h3,h4⟩=>⟨g,vs,hj.trans h1,h2,(hk g (by rw [h1];rfl)).trans h3,h4.imp fun _ _ h=>RelC.move m hL h⟩
 | .row q e t xs,⟨⟨inner,h1,h2⟩,h3⟩=>⟨⟨inner,by
    rw [hj]
    refine own_move h1 (fun k q=>hk k ?_)
    cases hv:ν j with
    | slice a n c=>rw [hv] at q;cases a with
      | none=>simp [Value.ownBlock] at q
      | some a=>simpa [Value.ownBlock,blk] using q
    | _=>rw [hv] at q;simp [Value.ownBlock] at q,h2.imp_ fun _ _ h=>h.move m⟩,fun k hk=>h3 k (hj▸hk)⟩
 | .fro e t xs,⟨v,h1,h2⟩=>⟨v,hj.trans h1,h2.move m⟩
 | .map xs,⟨g,es,c,h1,h2,h3,h4⟩=>⟨g,es,c,hj.trans h1,h2,(hk g (by rw [h1];rfl)).trans h3,h4⟩
 | .used,⟨v,h1,h2⟩=>⟨v,hj.trans h1,h2⟩
 | .gone,h=>h
theorem RelB.row_rd {U:Nat→Prop} {s:St} {j:Nat} {q:Lq} {e:TypeId} {t:Ty} {xs:List (T t)} (h:RelB U0 ν L s w j (.row q e t xs)) (hU : ∀ k,k<w.heap.size→U k→Un U0 ν L k∧blk (ν j)≠some k):Rd U w (.row e t) xs [ν j]∧ ∃ a c,ν j= .slice a xs.length c:=by
 obtain ⟨⟨inner,h1,h2⟩,_⟩:=h
 have mv:Move (Un U0 ν L) w w U:=⟨Nat.le_refl _,fun _ _ _=>rfl,fun k hk hu=>(hU k hk hu).1⟩
 rcases h1.2 with ⟨e1,e2⟩ | ⟨g,cap,cur,e1,hb,hg,hc,hm,hs,ht⟩
 · rw [e1]
   exact ⟨⟨none,0,by rw [e2],by omega,by omega,fun hn=>by omega⟩,none,0,by rw [e2]⟩
 · rw [e1]
   refine ⟨⟨_,cap,rfl,hc,by unfold maxLen at hm;omega,fun _=>⟨_,rfl,fun q p hp=>⟨_,(h2.2 q p hp).move mv,fun i u hu W hs2 hb2=> ?_⟩⟩⟩,_,_,rfl⟩
   have hgl:g<w.heap.size:=blk_lt hg
   have hW:W.heap[g]? =some (.cells cur e (0,0)):=by
    rw [hb2 g hgl (fun hu=>(hU g hgl hu).2 (by rw [e1];rfl))];exact hg
   show W.cell? ((⟨g,0,none⟩:Addr).add (q*t.size+i))=some u
   rw [List.getElem?_take] at hu
   split at hu
   · rw [List.getElem?_drop,kd_sz,← ht,List.getElem?_take] at hu
     split at hu
     · rw [add_at,blk_cell hW,Nat.zero_add]
       simpa using hu
     · cases hu
   · cases hu
end
end Go.Proofs.YtjocbnjpjihpnaaGreatW.Abs

end
section
namespace Go.Proofs.YtjocbnjpjihpnaaGreatW.Abs
open Go.RowKit Go.Proofs.YtjocbnjpjihpnaaGreatW.PrintWords Go.Proofs.YtjocbnjpjihpnaaGreatW.PrintLast Go.Proofs.YtjocbnjpjihpnaaGreatW.PrintMore
set_option linter.unusedVariables false
set_option linter.unusedSectionVars false

inductive TK where
 | scal | bool | str | ptr | map (k e:TypeId) | int (k:IntKind) | slice (e:TypeId) | struct (fs:List (Nat × Nat)) | arr (n:Nat) (e:TypeId)
structure TI where
 size:Nat
 bytes:Nat
 zero:List AC
 kind:TK
 ty:Option Ty
def zc:Value→AC→Bool
 | .int k n, .ro (.int k') x=>(k==k')&&n==(x:Int)
 | .bool b, .ro .bool x=>b==(x:Bool)
 | .string s, .ro .str x=>s.data.toList==(x:ByteArray).data.toList
 | .slice none 0 0, .nils=>true
 | .pointer none, .nilp=>true
 | .map none, .junk=>true
 | _,_=>false
def zcs:List Value→List AC→Bool
 | [],[]=>true
 | v::vs,c::cs=>zc v c&&zcs vs cs
 | _,_=>false
def kindB (P:Program):TypeDesc→TK→Bool
 | .int k, .int k'=>k==k'
 | .bool, .bool | .string, .str | .pointer _, .ptr=>true
 | .slice e, .slice e'=>e==e'
 | .map k e, .map k' e'=>k==k'&&e==e'
 | .struct fs, .struct gs=>fs.toList.map (fun f=>(f.offset,((P.info? f.type).map (·.size)).getD 0))==gs
 | .array n e, .arr n' e'=>n==n'&&e==e'
 | .slice _, .scal | .struct _, .scal | .array _ _, .scal=>false
 | _, .scal=>true
 | _,_=>false
def aggB:TypeDesc→Bool
 | .struct _ | .array _ _=>true
 | _=>false
def tiB (P:Program) (t:TypeId) (i:TI):Bool :=
 match P.info? t,P.underlying t with
 | some f,some d=>f.size==i.size&&f.bytes==i.bytes&&(match f.zero with
    | some (.agg cs)=>zcs cs.toList i.zero&&i.zero.length !=1
    | some v=>zcs [v] i.zero
    | none=>false)&&kindB P d i.kind&&(aggB d==(i.size !=1))&&i.zero.length==i.size
 | _,_=>false
abbrev Tab:=List (TypeId × TI)
def Tab.ok (P:Program) (Θ:Tab):Bool:=Θ.all fun x=>tiB P x.1 x.2
def ti:Tab→TypeId→Option TI
 | [],_=>none
 | (u,i)::Θ,t=>if t=u then some i else ti Θ t
theorem ti_ok {P:Program} {t:TypeId} {i:TI} : ∀ {Θ:Tab},Θ.ok P=true→ti Θ t=some i→tiB P t i=true
 | [],_,h=>by simp [ti] at h
 | (u,j)::Θ,hk,h=>by
   simp only [Tab.ok,List.all_cons,Bool.and_eq_true] at hk
   unfold ti at h
   split at h
   · rename_i e;injection h with h;subst h;subst e;exact hk.1
   · exact ti_ok (Θ:=Θ) hk.2 h
theorem tiB_info {P:Program} {t:TypeId} {i:TI} (h:tiB P t i=true) : ∃ f d,P.info? t=some f∧P.underlying t=some d∧f.size=i.size∧f.bytes=i.bytes∧kindB P d i.kind=true∧aggB d=(i.size !=1)∧i.zero.length=i.size∧ ∃ z:List Value,f.zero=some (mkV z)∧zcs z i.zero=true:=by
 unfold tiB at h
 cases hf:P.info? t with
 | none=>simp [hf] at h
 | some f =>
   cases hd:P.underlying t with
   | none=>simp [hf,hd] at h
   | some d =>
     simp only [hf,hd,Bool.and_eq_true,beq_iff_eq] at h
     obtain ⟨⟨⟨⟨⟨h1,h2⟩,h3⟩,h4⟩,h5⟩,h6⟩:=h
     refine ⟨f,d,rfl,rfl,h1,h2,h4,h5,h6, ?_⟩
     cases hz:f.zero with
     | none=>simp [hz] at h3
     | some v =>
       cases v with
       | agg cs =>
         simp only [hz,Bool.and_eq_true,bne_iff_ne] at h3
         have hl : ∀ {vs:List Value} {cs:List AC},zcs vs cs=true→vs.length=cs.length:=by
          intro vs
          induction vs with
          | nil=>intro cs k;cases cs<;>simp_all [zcs]
          | cons v vs ih=>intro cs k;cases cs with
            | nil=>simp [zcs] at k
            | cons c cs=>simp only [zcs,Bool.and_eq_true] at k;simp [ih k.2]
         have:=hl h3.1
         refine ⟨cs.toList, ?_,h3.1⟩
         match hq:cs.toList with
         | []=>simp [mkV];cases cs;simp_all
         | [x]=>rw [hq] at this;simp at this;exact absurd this.symm h3.2
         | x::y::l=>simp [mkV];cases cs;simp_all
       | _=>simp only [hz] at h3;exact ⟨[_],rfl,h3⟩
theorem zc_rel {U0:Nat→Prop} {ν:Nat→Value} {L:Nat→Prop} {w:World} {v:Value} {c:AC} (h:zc v c=true):RelC U0 ν L w c v:=by
 unfold zc at h
 split at h<;>try (exact absurd h (by decide))
 · rename_i k n k' x
   simp only [Bool.and_eq_true,beq_iff_eq] at h
   obtain ⟨h1,h2⟩:=h
   exact ⟨rfl,by show [Value.int k n]= [Value.int k' x];rw [h1,h2]⟩
 · rename_i b x
   rw [beq_iff_eq] at h
   exact ⟨rfl,by show [Value.bool b]= [Value.bool x];rw [h]⟩
 · rename_i s x
   rw [beq_iff_eq] at h
   refine ⟨rfl, ?_⟩
   show [Value.string s]= [Value.string x]
   have:s=x:=by
    cases s with
    | mk a=>cases hx:x with
      | mk b=>rw [hx] at h;simp only at h;congr 1;exact Array.ext' h
   rw [this]
 · rfl
 · rfl
 · rfl
theorem zcs_rel {U0:Nat→Prop} {ν:Nat→Value} {L:Nat→Prop} {w:World} : ∀ {vs:List Value} {cs:List AC},zcs vs cs=true→All2 (RelC U0 ν L w) cs vs
 | [],[],_=>trivial
 | v::vs,c::cs,h=>by
   simp only [zcs,Bool.and_eq_true] at h
   exact ⟨zc_rel h.1,zcs_rel h.2⟩
 | [],_::_,h=>by simp [zcs] at h
 | _::_,[],h=>by simp [zcs] at h
theorem RelC.one {U0:Nat→Prop} {ν:Nat→Value} {L:Nat→Prop} {w:World} (hB : ∀ j,L j→(ref (ν j)).oneCell'=true) : ∀ {c:AC} {v:Value},RelC U0 ν L w c v→v.oneCell'=true
 | .ro t x,v,h=>(kd t).K_one h.2.K v List.mem_cons_self
 | .nils,v,h=>by rw [show v=_ from h];rfl
 | .nilp,v,h=>by rw [show v=_ from h];rfl
 | .own j,v,h=>by rw [h.2];exact hB j h.1
 | .ptr j o,v,⟨_,g,_,h2⟩=>by rw [h2];rfl
 | .aptr j,v,⟨_,g,n,c,_,h2⟩=>by rw [h2];rfl
 | .elt j i o sz,v,⟨_,g,n,c,_,_,h2⟩=>by rw [h2];rfl
 | .rel t x,v,⟨ad,cs,h1,_⟩=>by rw [h1];rfl
 | .junk,v,h=>h

def lit:Value→AV
 | .int k n=> .val [.ro (.int k) n]
 | .bool b=> .val [.ro .bool b]
 | .string s=> .val [.ro .str s]
 | .slice none 0 0=> .val [.nils]
 | .pointer none=> .val [.nilp]
 | _=> .junk
def opnd (tm:List AV):Operand→AV
 | .tmp t=>tm.getD t .junk
 | .const v=>lit v
 | _=> .junk
def putT (tm:List AV) (d:Option Tmp) (x:AV):List AV:=match d with
 | some t=>tm.set t x
 | none=>tm
theorem lit_rel {U0:Nat→Prop} {ν:Nat→Value} {L:Nat→Prop} {w:World} (v:Value):RelV U0 ν L w (lit v) v:=by
 unfold lit
 split
 · exact ⟨[_],rfl,⟨rfl,rfl⟩,trivial⟩
 · exact ⟨[_],rfl,⟨rfl,rfl⟩,trivial⟩
 · exact ⟨[_],rfl,⟨rfl,rfl⟩,trivial⟩
 · exact ⟨[_],rfl,rfl,trivial⟩
 · exact ⟨[_],rfl,rfl,trivial⟩
 · trivial
section
variable {U0:Nat→Prop} {ν:Nat→Value} {tm:List AV} {hp:List AB} {w0:St} {w:World} {a:Act}
theorem Inv.opnd (I:Inv U0 ν tm hp w0 a w) (x:Operand):RelV U0 ν (lv hp) w (opnd tm x) (a.eval x):=by
 cases x with
 | tmp t =>
   show RelV U0 ν (lv hp) w (tm.getD t .junk) (a.tmps.getD t undef)
   rw [List.getD_eq_getElem?_getD]
   cases h:tm[t]? with
   | none=>trivial
   | some y=>exact I.tm t y h
 | const v=>exact lit_rel v
 | global g=>trivial
 | func f=>trivial
theorem Inv.ones (I:Inv U0 ν tm hp w0 a w) : ∀ j,lv hp j→(ref (ν j)).oneCell'=true:=by
 rintro j ⟨b,hb,hg⟩
 have hr:=I.mem j b hb hg
 cases b with
 | cells q e cs=>obtain ⟨g,vs,h1,_⟩:=hr;rw [h1];rfl
 | row q e t xs =>
   obtain ⟨⟨inner,⟨_,h | ⟨g,cap,cur,h,_⟩⟩,_⟩,_⟩:=hr
   · rw [h.1];rfl
   · rw [h];rfl
 | fro e t xs =>
   obtain ⟨v,h1,A,c,h2,_⟩:=hr
   rw [h1,(List.cons.inj h2).1];rfl
 | map xs=>obtain ⟨g,es,c,h1,_⟩:=hr;rw [h1];rfl
 | used=>obtain ⟨v,h1,h2⟩:=hr;rw [h1];exact h2
 | gone=>exact hr.elim
theorem Inv.put (I:Inv U0 ν tm hp w0 a w) {ν':Nat→Value} {hp':List AB} {w':World} (d:Option Tmp) (x:AV) (v:Value)
 (m:Move (Un U0 ν (lv hp)) w w' (Un U0 ν' (lv hp'))) (hL : ∀ j,lv hp j→lv hp' j∧Kp ν ν' j) (hx:RelV U0 ν' (lv hp') w' x v)
 (hB : ∀ j b,hp'[j]? =some b→isGone b=false→RelB U0 ν' (lv hp') w0 w' j b) (hD : ∀ i j,i≠j→lv hp' i→lv hp' j→ ∀ k,blk (ν' i)=some k→blk (ν' j)≠some k)
 (hF:Since w0 w') (hX:FxOk w0 ν' hp'):Inv U0 ν' (putT tm d x) hp' w0 (a.put d v) w':=by
 cases d with
 | none=>exact ⟨I.size,fun i y hy=>RelV.move m hL (I.tm i y hy),hB,hD,hF,hX,I.defers⟩
 | some t =>
   refine ⟨by simp [Act.put,putT,I.size],fun i y hy=> ?_,hB,hD,hF,hX,I.defers⟩
   simp only [putT,List.getElem?_set] at hy
   by_cases hti:t=i
   · subst hti
     by_cases hl:t<tm.length
     · rw [if_pos rfl,if_pos hl] at hy
       injection hy with hy
       subst hy
       have:(a.put (some t) v).tmps.getD t undef=v:=by
        have hs:t<a.tmps.size:=by rw [I.size];exact hl
        simp [Act.put,Array.getD_eq_getD_getElem?,hs]
       rw [this]
       exact hx
     · rw [if_pos rfl,if_neg hl] at hy
       cases hy
   · rw [if_neg hti] at hy
     have:(a.put (some t) v).tmps.getD i undef=a.tmps.getD i undef:=by
      simp [Act.put,Array.getD_eq_getD_getElem?,hti]
     rw [this]
     exact RelV.move m hL (I.tm i y hy)
theorem kp_refl {L:Nat→Prop} {ν:Nat→Value} : ∀ j,L j→L j∧Kp ν ν j:=fun _ h=>⟨h, .inl rfl⟩
theorem Inv.put_pure (I:Inv U0 ν tm hp w0 a w) (d:Option Tmp) {x:AV} {v:Value} (hx:RelV U0 ν (lv hp) w x v):Inv U0 ν (putT tm d x) hp w0 (a.put d v) w :=
 I.put d x v (Move.refl w) kp_refl hx I.mem I.dis I.fr I.fx
theorem Inv.go (I:Inv U0 ν tm hp w0 a w) {w':World} (d:Option Tmp) (x:AV) (v:Value) (hs:w.heap.size≤w'.heap.size) (hb : ∀ k,k<w.heap.size→w'.heap[k]? =w.heap[k]?) (hlt : ∀ j,lv hp j→ ∀ k,blk (ν j)=some k→k<w.heap.size)
 (hx:RelV U0 ν (lv hp) w' x v) (hF:Since w0 w'):Inv U0 ν (putT tm d x) hp w0 (a.put d v) w' :=
 have m:Move (Un U0 ν (lv hp)) w w' (Un U0 ν (lv hp)):=⟨hs,fun k hk _=>hb k hk,fun _ _ h=>h⟩
 I.put d x v m kp_refl hx (fun j b h1 h2=>(I.mem j b h1 h2).move m kp_refl rfl fun k hk=>hb k (hlt j ⟨b,h1,h2⟩ k hk)) I.dis hF I.fx
theorem blk_lt_map {w:World} {g:Nat} {o:Obj} (h:w.heap[g]? =some o):g<w.heap.size:=(Array.getElem?_eq_some_iff.1 h).1
theorem Inv.lt (I:Inv U0 ν tm hp w0 a w) {j g:Nat} (hj:lv hp j) (hb:blk (ν j)=some g):g<w.heap.size∧(w0.heap.size≤g∨g∈w0.io):=by
 obtain ⟨b,h1,hg⟩:=hj
 have h2:=I.mem j b h1 hg
 cases b with
 | cells q e cs =>
   obtain ⟨g',vs,q1,q2,q3,_⟩:=h2
   rw [q1] at hb
   injection hb with hb
   subst hb
   exact ⟨blk_lt q3,q2.any⟩
 | row q e t xs =>
   obtain ⟨⟨inner,h,_⟩,h3⟩:=h2
   have h3:=h3 g hb
   rcases h.2 with ⟨q,_⟩ | ⟨g',cap,cur,q,q2,q3,_⟩
   · rw [q] at hb;cases hb
   · rw [q] at hb
     injection hb with hb
     subst hb
     exact ⟨blk_lt q3,h3.any⟩
 | fro e t xs=>obtain ⟨v,q,_⟩:=h2;rw [q] at hb;cases hb
 | map xs =>
   obtain ⟨g',es,c,q1,q2,q3,_⟩:=h2
   rw [q1] at hb
   injection hb with hb
   subst hb
   exact ⟨blk_lt_map q3, .inl q2⟩
 | used=>obtain ⟨v,q,_⟩:=h2;rw [q] at hb;cases hb
 | gone=>exact h2.elim
theorem Inv.lt_mine (I:Inv U0 ν tm hp w0 a w) {j g:Nat} {e:TypeId} {t:Ty} {xs:List (T t)} (hj:hp[j]? =some (.row .mine e t xs)) (hb:blk (ν j)=some g):w0.heap.size≤g:=(I.mem j _ hj rfl).2 g hb
theorem FxOk.upd_ {s:St} {ν ν':Nat→Value} {hp hp':List AB} (h:FxOk s ν hp) (hs : ∀ j b,hp[j]? =some b→isFx b=true→ν' j=ν j∧ ∃ b',hp'[j]? =some b'∧isFx b'=true):FxOk s ν' hp':=fun p hp=>by
 obtain ⟨h1,b,h2,h3⟩:=h p hp
 obtain ⟨q1,q2⟩:=hs p.1 b h2 h3
 exact ⟨q1.trans h1,q2⟩
def upd (ν:Nat→Value) (t:Nat) (v:Value) (j:Nat):Value:=if j=t then v else ν j
theorem upd_self {ν:Nat→Value} {t:Nat} {v:Value} :upd ν t v t=v:=if_pos rfl
theorem upd_ne {ν:Nat→Value} {t j:Nat} {v:Value} (h:j≠t):upd ν t v j=ν j:=if_neg h
theorem lv_set {hp:List AB} {j:Nat} {b:AB} (hj:lv hp j) (hb:isGone b=false):lv (hp.set j b)=lv hp:=by
 obtain ⟨b',h1,h2⟩:=hj
 have hlt:=(List.getElem?_eq_some_iff.1 h1).1
 funext i
 apply propext
 unfold lv
 by_cases h:j=i
 · subst h
   exact ⟨fun _=>⟨b',h1,h2⟩,fun _=>⟨b,by simp [hlt],hb⟩⟩
 · rw [List.getElem?_set_ne h]
theorem Inv.freeze1 (I:Inv U0 ν tm hp w0 a w) (hU : ∀ k,U0 k→k<w0.heap.size) {j:Nat} {e:TypeId} {t:Ty} {xs:List (T t)} (hb:hp[j]? =some (.row .mine e t xs)):Inv U0 (upd ν j (.tuple #[ν j])) tm (hp.set j (.fro e t xs)) w0 a w:=by
 have hj:lv hp j:=⟨_,hb,rfl⟩
 have el:=lv_set hj (b:= .fro e t xs) rfl
 have hlt:=(List.getElem?_eq_some_iff.1 hb).1
 have hR:=I.mem j _ hb rfl
 obtain ⟨_,a',c',hsl⟩:=hR.row_rd (U:=fun _=>False) (fun _ _ h=>h.elim)
 have hK : ∀ i,lv hp i→lv (hp.set j (.fro e t xs)) i∧Kp ν (upd ν j (.tuple #[ν j])) i:=fun i hi=>⟨el▸hi,by
  by_cases h:i=j
  · subst h;exact .inr ⟨a',_,c',hsl,upd_self⟩
  · exact .inl (upd_ne h)⟩
 have hbk : ∀ i k,blk (upd ν j (.tuple #[ν j]) i)=some k→i≠j∧blk (ν i)=some k:=fun i k h=>by
  by_cases q:i=j
  · subst q;rw [upd_self] at h;cases h
  · rw [upd_ne q] at h;exact ⟨q,h⟩
 have hun : ∀ k,Un U0 (upd ν j (.tuple #[ν j])) (lv (hp.set j (.fro e t xs))) k→Un U0 ν (lv hp) k:=fun k h=>by
  rcases h with h | ⟨i,hi,h⟩
  · exact .inl h
  · exact .inr ⟨i,el▸hi,(hbk i k h).2⟩
 have m:Move (Un U0 ν (lv hp)) w w (Un U0 (upd ν j (.tuple #[ν j])) (lv (hp.set j (.fro e t xs)))):=⟨Nat.le_refl _,fun _ _ _=>rfl,fun k _ h=>hun k h⟩
 have:=I.put (a:=a) (d:=none) (x:= .junk) (v:=undef) m hK trivial (fun i b h1 h2=> ?_) (fun i i' hne hi hi' k h1 h2=> ?_) I.fr (I.fx.upd_ fun i b h1 h2=> ?_)
 · exact this
 · by_cases h:j=i
   · subst h
     rw [List.getElem?_set_self hlt] at h1
     injection h1 with h1
     subst h1
     refine ⟨ν j,upd_self,(hR.row_rd fun k hk hu=>⟨hun k hu,fun hbj=> ?_⟩).1⟩
     rcases hu with hu | ⟨i,hi,hu⟩
     · have h1:=hU k hu
       have:=I.lt_mine hb hbj
       omega
     · obtain ⟨q1,q2⟩:=hbk i k hu
       exact I.dis i j q1 (el▸hi) hj k q2 hbj
   · rw [List.getElem?_set_ne h] at h1
     exact (I.mem i b h1 h2).move m hK (upd_ne (fun q=>h q.symm)) (fun _ _=>rfl)
 · rw [el] at hi hi'
   exact I.dis i i' hne hi hi' k (hbk i k h1).2 (hbk i' k h2).2
 · have hne:i≠j:=by
    rintro rfl
    rw [hb] at h1
    injection h1 with h1
    subst h1
    cases h2
   exact ⟨upd_ne hne,b,by rw [List.getElem?_set_ne (Ne.symm hne)];exact h1,h2⟩
end
end Go.Proofs.YtjocbnjpjihpnaaGreatW.Abs

end
section
namespace Go.Proofs.YtjocbnjpjihpnaaGreatW.Abs
open Go.RowKit Go.Proofs.YtjocbnjpjihpnaaGreatW.PrintWords Go.Proofs.YtjocbnjpjihpnaaGreatW.PrintLast Go.Proofs.YtjocbnjpjihpnaaGreatW.PrintMore
set_option linter.unusedVariables false
set_option linter.unusedSectionVars false

@[reducible] def TT:List Ty→Type
  | []=>Unit
  | t::ts=>T t × TT ts
structure FSpec where
 ps:List Ty
 rs:List Ty
 f:Nat→TT ps→Option (TT rs)
inductive FK where
 | ty (t:Ty)
 | row (keep:Bool) (e:TypeId) (t:Ty)
@[reducible] def FT:List FK→Type
  | []=>Unit
  | .ty t::l=>T t × FT l
  | .row _ _ t::l=>List (T t) × FT l
inductive PK where
 | ty (t:Ty)
 | st (e:TypeId) (fs:List FK)
 | bor (e:TypeId) (t:Ty)
@[reducible] def PT:List PK→Type
  | []=>Unit
  | .ty t::l=>T t × PT l
  | .st _ fs::l=>FT fs × PT l
  | .bor _ t::l=>List (T t) × PT l
@[reducible] def ET:List PK→Type
  | []=>Unit
  | .ty _::l=>ET l
  | .st _ fs::l=>FT fs × ET l
  | .bor _ t::l=>List (T t) × ET l
structure ISpec where
 ps:List PK
 rs:List Ty
 f:Nat→PT ps→Option (TT rs × ET ps)
structure NSpec where
 ps:List Ty
 e:TypeId
 t:Ty
 f:Nat→TT ps→Option (List (T t))
inductive FE where
 | pu (s:FSpec)
 | io (s:ISpec) (nm:List (Nat × Nat))
 | nw (s:NSpec)
inductive Tree (R:Type):Type 1 where
 | non
 | done (r:R)
 | tst (c:Prop) [d:Decidable c] (x y:Tree R)
 | cll {A:Type} (x:Option A) (f:A→Tree R)
def Tree.run {R:Type} :Tree R→Option R
 | .non=>none
 | .done r=>some r
 | @Tree.tst _ c d x y=> @ite _ c d x.run y.run
 | .cll x f=>x.bind fun a=>(f a).run
def ofO {R:Type} :Option R→Tree R
 | some r=> .done r
 | none=> .non
theorem ofO_run {R:Type} (x:Option R):(ofO x).run=x:=by cases x<;>rfl
theorem Tree.non_run {R:Type} {r:R} (h:(Tree.non:Tree R).run=some r):False:=by cases h
theorem Tree.tst_run {R:Type} {r:R} {c:Prop} [d:Decidable c] {x y:Tree R} (h:(Tree.tst c x y).run=some r):(c∧x.run=some r)∨(¬ c∧y.run=some r):=by
 have h:(if c then x.run else y.run)=some r:=h
 split at h
 · rename_i hc;exact .inl ⟨hc,h⟩
 · rename_i hc;exact .inr ⟨hc,h⟩
theorem Tree.need {R:Type} {r:R} {c:Prop} [d:Decidable c] {x:Tree R} (h:(Tree.tst c x .non).run=some r):c∧x.run=some r:=(Tree.tst_run h).resolve_right fun q=>Tree.non_run q.2
theorem Tree.cll_run {R A:Type} {r:R} {x:Option A} {f:A→Tree R} (h:(Tree.cll x f).run=some r) : ∃ a,x=some a∧(f a).run=some r:=Option.bind_eq_some_iff.1 h
structure HC where
 nw:Option AB
 ch:List (Nat × AB)
@[reducible] def H0:HC:=⟨none,[]⟩
def ownRow (hp:List AB) (j:Nat) (e:TypeId) (t:Ty):Option (List (T t)):=match hp[j]? with
 | some (.row .mine e' t' xs)=>if h:e'=e∧t'=t then h.2▸some xs else none
 | some (.fro e' t' xs)=>if h:e'=e∧t'=t then h.2▸some xs else none
 | _=>none
def toT (hp:List AB):(t:Ty)→List AC→Option (T t × List AC)
 | .cons a b,cs=>match toT hp a cs with
   | some (x,cs')=>match toT hp b cs' with
     | some (y,cs'')=>some ((x,y),cs'')
     | none=>none
   | none=>none
 | .row _ _, .nils::cs=>some ([],cs)
 | .row e t, .own j::cs=>match ownRow hp j e t with
   | some xs=>some (xs,cs)
   | none=>none
 | t, .ro t' x::cs=>if h:t'=t then h▸some (x,cs) else none
 | _,_=>none
def fzs (hp:List AB):List AC→List (Nat × AB)
 | []=> []
 | .own j::cs=>match hp[j]? with
   | some (.row .mine e t xs)=>(j, .fro e t xs)::fzs hp cs
   | _=>fzs hp cs
 | _::cs=>fzs hp cs
def noOwn:List AC→Bool
 | []=>true
 | .own _::_=>false
 | _::cs=>noOwn cs
def inFz:List (Nat × AB)→Nat→Bool
 | [],_=>false
 | (i,_)::l,j=>i==j || inFz l j
def expl:(t:Ty)→T t→List AC
 | .cons a b,x=>expl a x.1++expl b x.2
 | .int k,x=> [.ro (.int k) x]
 | .bool,x=> [.ro .bool x]
 | .str,x=> [.ro .str x]
 | .row e t,x=> [.ro (.row e t) x]
def part:(t:Ty)→T t→(off sz:Nat)→Option AC
 | .cons a b,x,off,sz =>
   if off=0∧sz=(Ty.cons a b).size then some (.rel (.cons a b) x)
   else if off<a.size then part a x.1 off sz else part b x.2 (off-a.size) sz
 | t,x,off,sz=>if off=0∧sz=1 then some (.rel t x) else none
def args (hp:List AB) (tm:List AV):(ps:List Ty)→List Operand→Option (TT ps)
 | [],[]=>some ()
 | t::ts,o::os=>match opnd tm o with
   | .val cs=>match toT hp t cs with
     | some (x,[])=>match args hp tm ts os with
       | some xs=>some (x,xs)
       | none=>none
     | _=>none
   | _=>none
 | _,_=>none
def cellsOf:AV→List AC
 | .val cs=>cs
 | _=> []
def argFz (hp:List AB) (tm:List AV):List Operand→List (Nat × AB)
 | []=> []
 | o::os=>fzs hp (cellsOf (opnd tm o))++argFz hp tm os
def ress:(rs:List Ty)→TT rs→List (List AC)
 | [],_=> []
 | t::ts,(x,y)=>expl t x::ress ts y
def resV (rs:List Ty) (x:TT rs):AV:=match ress rs x with
 | [cs]=> .val cs
 | ts=> .tup ts
def noRow:Ty→Bool
 | .row _ _=>false
 | .cons a b=>noRow a&&noRow b
 | _=>true
def iv (k:IntKind) (n:Int):AV:= .val [.ro (.int k) n]
def wr:IntKind→Int→Int
 | .i64,n=>wrap64 n
 | k,n=>k.wrap n
theorem wr_eq (k:IntKind) (n:Int):wr k n=k.wrap n:=by
 cases k<;>first | rfl | exact (i64_w n).symm
def bv (b:Bool):AV:= .val [.ro .bool b]
def zeroB:(t:Ty)→List AC→Option (List AC)
 | .cons a b,cs=>match zeroB a cs with
   | some cs'=>zeroB b cs'
   | none=>none
 | .row _ _, .nils::cs=>some cs
 | .int k, .ro (.int k') x::cs=>if k'=k∧(x:Int)=0 then some cs else none
 | .bool, .ro .bool x::cs=>if (x:Bool)=false then some cs else none
 | .str, .ro .str x::cs=>if (x:ByteArray).data.toList.length=0 then some cs else none
 | _,_=>none
def zeroOk (t:Ty) (cs:List AC):Bool:=match zeroB t cs with
 | some []=>true
 | _=>false
theorem zeroOk_iff {t:Ty} {cs:List AC} (h:zeroOk t cs=true):zeroB t cs=some []:=by
 unfold zeroOk at h
 split at h
 · assumption
 · cases h
section
universe u
variable {R:Type u} {A:Type}
def fC (c:AC) (k:AC→R):R:=match c with
 | .ro (.int q) x=>k (.ro (.int q) x)
 | .ro .bool x=>k (.ro .bool x)
 | .ro .str x=>k (.ro .str x)
 | .ro (.row e t) x=>k (.ro (.row e t) x)
 | .ro (.cons a b) x=>k (.ro (.cons a b) x)
 | .nils=>k .nils
 | .nilp=>k .nilp
 | .own j=>k (.own j)
 | .ptr j o=>k (.ptr j o)
 | .aptr j=>k (.aptr j)
 | .elt j i o z=>k (.elt j i o z)
 | .rel t x=>k (.rel t x)
 | .junk=>k .junk
theorem fC_eq (c:AC) (k:AC→R):fC c k=k c:=by
 cases c
 case ro t x=>cases t<;>rfl
 all_goals rfl
def fCs:List AC→(List AC→R)→R
 | [],k=>k []
 | c::cs,k=>fC c fun c'=>fCs cs fun cs'=>k (c'::cs')
theorem fCs_eq : ∀ (cs:List AC) (k:List AC→R),fCs cs k=k cs
 | [],_=>rfl
 | c::cs,k=>by simp only [fCs,fC_eq,fCs_eq cs]
def fTs:List (List AC)→(List (List AC)→R)→R
 | [],k=>k []
 | c::cs,k=>fCs c fun c'=>fTs cs fun cs'=>k (c'::cs')
theorem fTs_eq : ∀ (cs:List (List AC)) (k:List (List AC)→R),fTs cs k=k cs
 | [],_=>rfl
 | c::cs,k=>by simp only [fTs,fCs_eq,fTs_eq cs]
def fV (x:AV) (k:AV→R):R:=match x with
 | .val cs=>fCs cs fun cs'=>k (.val cs')
 | .tup ts=>fTs ts fun ts'=>k (.tup ts')
 | .junk=>k .junk
 | .un=>k .un
theorem fV_eq (x:AV) (k:AV→R):fV x k=k x:=by cases x<;>simp only [fV,fCs_eq,fTs_eq]
def fB (b:AB) (k:AB→R):R:=match b with
 | .cells q e cs=>fCs cs fun cs'=>k (.cells q e cs')
 | .row q e t xs=>k (.row q e t xs)
 | .fro e t xs=>k (.fro e t xs)
 | .map xs=>k (.map xs)
 | .used=>k .used
 | .gone=>k .gone
theorem fB_eq (b:AB) (k:AB→R):fB b k=k b:=by cases b<;>simp only [fB,fCs_eq]
def fSet:List A→Nat→A→(List A→R)→R
 | [],_,_,k=>k []
 | _::l,0,x,k=>k (x::l)
 | a::l,n+1,x,k=>fSet l n x fun l'=>k (a::l')
theorem fSet_eq : ∀ (l:List A) (n:Nat) (x:A) (k:List A→R),fSet l n x k=k (l.set n x)
 | [],_,_,_=>rfl
 | _::_,0,_,_=>rfl
 | a::l,n+1,x,k=>by simp only [fSet,fSet_eq l n x,List.set_cons_succ]
def fSnoc:List A→A→(List A→R)→R
 | [],x,k=>k [x]
 | a::l,x,k=>fSnoc l x fun l'=>k (a::l')
theorem fSnoc_eq : ∀ (l:List A) (x:A) (k:List A→R),fSnoc l x k=k (l++ [x])
 | [],_,_=>rfl
 | a::l,x,k=>by simp only [fSnoc,fSnoc_eq l x,List.cons_append]
def fNs:List Nat→(List Nat→R)→R
 | [],k=>k []
 | a::l,k=>fNs l fun l'=>k (a::l')
theorem fNs_eq : ∀ (l:List Nat) (k:List Nat→R),fNs l k=k l
 | [],_=>rfl
 | a::l,k=>by simp only [fNs,fNs_eq l]
def fL:List AV→(List AV→R)→R
 | [],k=>k []
 | a::l,k=>fV a fun a'=>fL l fun l'=>k (a'::l')
theorem fL_eq : ∀ (l:List AV) (k:List AV→R),fL l k=k l
 | [],_=>rfl
 | a::l,k=>by simp only [fL,fV_eq,fL_eq l]
def fH:List AB→(List AB→R)→R
 | [],k=>k []
 | a::l,k=>fB a fun a'=>fH l fun l'=>k (a'::l')
theorem fH_eq : ∀ (l:List AB) (k:List AB→R),fH l k=k l
 | [],_=>rfl
 | a::l,k=>by simp only [fH,fB_eq,fH_eq l]
def putF (tm:List AV) (d:Option Tmp) (x:AV) (k:List AV→R):R:=match d with
 | some t=>fV x fun x'=>fSet tm t x' k
 | none=>k tm
theorem putF_eq (tm:List AV) (d:Option Tmp) (x:AV) (k:List AV→R):putF tm d x k=k (putT tm d x):=by cases d<;>simp only [putF,fV_eq,fSet_eq,putT]
end
def chs:List (Nat × AB)→List AB→List AB
 | [],hp=>hp
 | (j,b)::l,hp=>(chs l hp).set j b
def happ (d:Option Tmp) (hp:List AB) (δ:HC):List AB:=match δ.nw,d with
 | some b,some t=>(chs δ.ch hp).set t b
 | _,_=>chs δ.ch hp
universe u in
def fChs {R:Type u} :List (Nat × AB)→List AB→(List AB→R)→R
 | [],hp,k=>k hp
 | (j,b)::l,hp,k=>fChs l hp fun hp'=>fB b fun b'=>fSet hp' j b' k
universe u in
theorem fChs_eq {R:Type u} : ∀ (l:List (Nat × AB)) (hp:List AB) (k:List AB→R),fChs l hp k=k (chs l hp)
 | [],_,_=>rfl
 | (j,b)::l,hp,k=>by simp only [fChs,fChs_eq l hp,fB_eq,fSet_eq,chs]
universe u in
def happF {R:Type u} (d:Option Tmp) (hp:List AB) (δ:HC) (k:List AB→R):R:=match δ.nw,d with
 | some b,some t=>fChs δ.ch hp fun hp'=>fB b fun b'=>fSet hp' t b' k
 | _,_=>fChs δ.ch hp k
universe u in
theorem happF_eq {R:Type u} (d:Option Tmp) (hp:List AB) (δ:HC) (k:List AB→R):happF d hp δ k=k (happ d hp δ):=by
 unfold happF happ
 split<;>simp only [fChs_eq,fB_eq,fSet_eq]
def knownB (hp:List AB) (j:Nat):Bool:=match hp[j]? with
 | some _=>true
 | none=>false
def hok (d:Option Tmp) (hp:List AB) (δ:HC):Bool:=(match δ.nw,d with
 | some b,some t=>(match hp[t]? with
   | some .gone=>true
   | _=>false)&& !isGone b
 | some _,none=>false
 | none,_=>true)&&δ.ch.all fun p=>knownB hp p.1&& !isGone p.2
section
variable {R:Type}
def intBin (op:BinOp) (k:IntKind) (x y:Int) (K:AV→Tree R):Tree R :=
 match op with
 | .add=>K (iv k (wr k (x+y)))
 | .sub=>K (iv k (wr k (x-y)))
 | .mul=>K (iv k (wr k (x*y)))
 | .quo=>Tree.tst (y=0) .non (K (iv k (wr k (Int.tdiv x y))))
 | .rem=>Tree.tst (y=0) .non (K (iv k (Int.tmod x y)))
 | .and=>K (iv k (Go.bits .and k x y))
 | .or=>K (iv k (Go.bits .or k x y))
 | .xor=>K (iv k (Go.bits .xor k x y))
 | .andNot=>K (iv k (Go.bits .andNot k x y))
 | .eql=>K (bv (x==y))
 | .neq=>K (bv (x !=y))
 | .lss=>K (bv (decide (x<y)))
 | .leq=>K (bv (decide (x≤y)))
 | .gtr=>K (bv (decide (y<x)))
 | .geq=>K (bv (decide (y≤x)))
 | _=> .non
def shiftBin (op:BinOp) (k:IntKind) (x y:Int) (K:AV→Tree R):Tree R :=
 match op with
 | .shl=>Tree.tst (0≤y) (K (iv k (shl k x y))) .non
 | .shr=>Tree.tst (0≤y) (K (iv k (shr k x y))) .non
 | _=> .non
def isShift:BinOp→Bool
 | .shl | .shr=>true
 | _=>false
def boolBin (op:BinOp) (x y:Bool) (K:AV→Tree R):Tree R :=
 match op with
 | .eql=>K (bv (x==y))
 | .neq=>K (bv (!(x==y)))
 | _=> .non
def strBin (op:BinOp) (x y:ByteArray) (K:AV→Tree R):Tree R :=
 match op with
 | .add=>Tree.tst (x.size+y.size≤9223372036854775807) (K (.val [.ro .str (x++y)])) .non
 | .eql=>K (bv (x.toList==y.toList))
 | .neq=>K (bv (!(x.toList==y.toList)))
 | _=> .non
def ptrBin (op:BinOp) (b:Bool) (K:AV→Tree R):Tree R :=
 match op with
 | .eql=>K (bv b)
 | .neq=>K (bv (!b))
 | _=> .non
def fillC (place:Nat→Option (Nat × Nat)) (cs:List AC):List (Nat × AV)→Option (List AC)
 | []=>some cs
 | (i, .val xs)::rest=>match place i with
   | some (off,sz)=>if xs.length=sz∧off+sz≤cs.length then fillC place (cs.take off++xs++cs.drop (off+sz)) rest else none
   | none=>none
 | _=>none
def rows (hp:List AB) (t:Ty):Nat→List AC→Option (List (T t))
 | 0,[]=>some []
 | n+1,cs=>match toT hp t cs with
   | some (x,cs')=>match rows hp t n cs' with
     | some xs=>some (x::xs)
     | none=>none
   | none=>none
 | _,_=>none
def growRow (hp:List AB) (e:TypeId) (t:Ty):AC→Option (List (Nat × AB) × Lq × List (T t))
 | .nils=>some ([], .mine,[])
 | .own j=>match hp[j]? with
   | some (.row .mine e' t' xs)=>if h:e'=e∧t'=t then h.2▸some ([(j, .used)], .mine,xs) else none
   | some (.row .lent e' t' xs)=>if h:e'=e∧t'=t then h.2▸some ([(j, .used)], .lent,xs) else none
   | _=>none
 | _=>none
def rdRow (hp:List AB) (e:TypeId) (t:Ty) (c:AC):Option (List (T t)):=match toT hp (.row e t) [c] with
 | some (xs,[])=>some xs
 | _=>none
def rdAny (hp:List AB) (e:TypeId) (t:Ty) (c:AC):Option (List (T t)):=match c with
 | .own j=>match hp[j]? with
   | some (.row _ e' t' xs)=>if h:e'=e∧t'=t then h.2▸some xs else none
   | _=>rdRow hp e t c
 | _=>rdRow hp e t c
def rdF (hp:List AB):(fs:List FK)→List AC→Option (FT fs)
 | [],[]=>some ()
 | .ty t::l,cs=>if noOwn (cs.take t.size)=true then (match toT hp t cs with
   | some (x,cs')=>match rdF hp l cs' with
     | some y=>some (x,y)
     | none=>none
   | none=>none) else none
 | .row true e t::l, .own j::cs=>match hp[j]? with
   | some (.row _ e' t' xs)=>if h:e'=e∧t'=t then (match rdF hp l cs with
     | some y=>h.2▸some (xs,y)
     | none=>none) else none
   | _=>none
 | .row false e t::l, .nils::cs=>match rdF hp l cs with
   | some y=>some ([],y)
   | none=>none
 | .row false e t::l, .own j::cs=>match hp[j]? with
   | some (.row .mine e' t' xs)=>if h:e'=e∧t'=t then (match rdF hp l cs with
     | some y=>h.2▸some (xs,y)
     | none=>none) else none
   | some (.row .lent e' t' xs)=>if h:e'=e∧t'=t then (match rdF hp l cs with
     | some y=>h.2▸some (xs,y)
     | none=>none) else none
   | _=>none
 | _,_=>none
def argsP (hp:List AB) (tm:List AV):(ps:List PK)→List Operand→Option (PT ps)
 | [],[]=>some ()
 | .ty t::ts,o::os=>match opnd tm o with
   | .val cs=>match toT hp t cs with
     | some (x,[])=>match argsP hp tm ts os with
       | some xs=>some (x,xs)
       | none=>none
     | _=>none
   | _=>none
 | .st e fs::ts,o::os=>match opnd tm o with
   | .val [.ptr j 0]=>match hp[j]? with
     | some (.cells _ e' cs)=>if e'=e then (match rdF hp fs cs with
       | some x=>match argsP hp tm ts os with
         | some xs=>some (x,xs)
         | none=>none
       | none=>none) else none
     | _=>none
   | _=>none
 | .bor e t::ts,o::os=>match opnd tm o with
   | .val [.own j]=>match hp[j]? with
     | some (.row _ e' t' xs)=>if h:e'=e∧t'=t then (match argsP hp tm ts os with
       | some ys=>h.2▸some (xs,ys)
       | none=>none) else none
     | _=>none
   | _=>none
 | _,_=>none
def pFz (hp:List AB) (tm:List AV):List PK→List Operand→List (Nat × AB)
 | .ty t::ts,o::os=>fzs hp (cellsOf (opnd tm o))++pFz hp tm ts os
 | _::ts,_::os=>pFz hp tm ts os
 | _,_=> []
def aftF (hp:List AB) (rq:Lq):(fs:List FK)→FT fs→List AC→Nat→List AC × List (Nat × AB)
 | .ty t::l,(x,y),cs,b=>((expl t x)++(aftF hp rq l y (cs.drop t.size) b).1,(aftF hp rq l y (cs.drop t.size) b).2)
 | .row true e t::l,(x,y), .own j::cs,b=>(.own j::(aftF hp rq l y cs b).1,(match hp[j]? with
   | some (.row q _ _ _)=>(j, .row q e t x)::(aftF hp rq l y cs b).2
   | _=>(aftF hp rq l y cs b).2))
 | .row false e t::l,(x,y), .own j::cs,b=>(.own b::(aftF hp rq l y cs (b+1)).1,(b, .row rq e t x)::(j, .used)::(aftF hp rq l y cs (b+1)).2)
 | .row false e t::l,(x,y),_::cs,b=>(.own b::(aftF hp rq l y cs (b+1)).1,(b, .row rq e t x)::(aftF hp rq l y cs (b+1)).2)
 | _,_,cs,_=>(cs,[])
def grows:List FK→Nat
 | []=>0
 | .row false _ _::l=>grows l+1
 | _::l=>grows l
def aftP (hp:List AB) (tm:List AV) (rq:Lq):(ps:List PK)→ET ps→List Operand→Nat→List (Nat × AB)
 | .ty _::ts,x,_::os,b=>aftP hp tm rq ts x os b
 | .st e fs::ts,(x,y),o::os,b=>match opnd tm o with
   | .val [.ptr j 0]=>match hp[j]? with
     | some (.cells q _ cs)=>(j, .cells q e (aftF hp rq fs x cs b).1)::((aftF hp rq fs x cs b).2++aftP hp tm rq ts y os (b+grows fs))
     | _=> []
   | _=> []
 | .bor e t::ts,(x,y),o::os,b=>match opnd tm o with
   | .val [.own j]=>match hp[j]? with
     | some (.row q _ _ _)=>(j, .row q e t x)::aftP hp tm rq ts y os b
     | _=> []
   | _=> []
 | _,_,_,_=> []
def mineF (hp:List AB):List FK→List AC→Bool
 | .ty t::l,cs=>mineF hp l (cs.drop t.size)
 | .row _ _ _::l, .own j::cs=>(match hp[j]? with
   | some (.row .mine _ _ _)=>true
   | _=>false)&&mineF hp l cs
 | .row _ _ _::l,_::cs=>mineF hp l cs
 | _,_=>true
def mineP (hp:List AB) (tm:List AV):List PK→List Operand→Bool
 | .ty _::ts,_::os=>mineP hp tm ts os
 | .st _ fs::ts,o::os=>(match opnd tm o with
   | .val [.ptr j 0]=>match hp[j]? with
     | some (.cells .mine _ cs)=>mineF hp fs cs
     | _=>false
   | _=>false)&&mineP hp tm ts os
 | .bor _ _::ts,o::os=>(match opnd tm o with
   | .val [.own j]=>match hp[j]? with
     | some (.row .mine _ _ _)=>true
     | _=>false
   | _=>false)&&mineP hp tm ts os
 | _,_=>true
def lentOf (b:Bool):Lq:=match b with
 | true=> .mine
 | false=> .lent
def idsF:List FK→List AC→List Nat
 | .ty t::l,cs=>idsF l (cs.drop t.size)
 | .row _ _ _::l, .own j::cs=>j::idsF l cs
 | .row _ _ _::l,_::cs=>idsF l cs
 | _,_=> []
def idsP (hp:List AB) (tm:List AV):List PK→List Operand→List Nat
 | .ty _::ts,_::os=>idsP hp tm ts os
 | .st _ fs::ts,o::os=>match opnd tm o with
   | .val [.ptr j 0]=>match hp[j]? with
     | some (.cells _ _ cs)=>j::(idsF fs cs++idsP hp tm ts os)
     | _=> []
   | _=> []
 | .bor _ _::ts,o::os=>match opnd tm o with
   | .val [.own j]=>j::idsP hp tm ts os
   | _=> []
 | _,_=> []
def growsP:List PK→Nat
 | []=>0
 | .st _ fs::l=>grows fs+growsP l
 | _::l=>growsP l
def nodupN:List Nat→Bool
 | []=>true
 | a::l=> !l.contains a&&nodupN l
def goneB (hp:List AB) (j:Nat):Bool:=match hp[j]? with
 | some .gone=>true
 | _=>false
def lookN:List (Nat × Nat)→Nat→Nat
 | [],_=>0
 | (u,b)::l,i=>if i=u then b else lookN l i
def keyN (d:Option Tmp):List Operand→Nat
 | .tmp t::os=>max t (keyN d os)
 | _::os=>keyN d os
 | []=>match d with
   | some t=>t
   | none=>0
def lendB (hp:List AB) (tm:List AV) (ps:List PK) (os:List Operand) (b:Nat):Bool :=
 nodupN (idsP hp tm ps os)&&(pFz hp tm ps os).all (fun p=> !(idsP hp tm ps os).contains p.1)&&(List.range (growsP ps)).all fun i=>goneB hp (b+i)
def fO {R:Type 1} (h:Option Int) (d:Int) (k:Int→R):R:=match h with
 | some x=>k x
 | none=>k d
theorem fO_eq {R:Type 1} (h:Option Int) (d:Int) (k:Int→R):fO h d k=k (h.getD d):=by cases h<;>rfl
def mapB (Θ:Tab) (t:TypeId):Bool:=match ti Θ t with
 | some i=>match i.kind with
   | .map kt vt=>match ti Θ kt,ti Θ vt with
     | some a,some b=>match a.kind,b.kind with
       | .int .i64, .int .i64=>zeroOk (.int .i64) b.zero
       | _,_=>false
     | _,_=>false
   | _=>false
 | none=>false
def isI64:IntKind→Bool
 | .i64=>true
 | _=>false
def bnd? (tm:List AV):Option Operand→Option (Option Int)
 | none=>some none
 | some o=>match opnd tm o with
   | .val [.ro (.int _) n]=>some (some n)
   | _=>none
def stepT (Θ:Tab) (S:FuncId→Option FE) (k:Nat) (tm:List AV) (hp:List AB) (d:Option Tmp) (o:Op) (K:AV→HC→Tree R):Tree R :=
 match o with
 | .move x | .assign x=>K (opnd tm x) H0
 | .pick c x y=>match opnd tm c with
   | .val [.ro .bool b]=>Tree.tst ((b:Bool)=true) (K (opnd tm x) H0) (K (opnd tm y) H0)
   | _=> .non
 | .binOp op t x y _=>match opnd tm x,opnd tm y with
   | .val [.ro (.int k) m], .val [.ro (.int k') n]=>if isShift op=true then shiftBin op k m n (fun v=>K v H0) else if k=k' then intBin op k m n (fun v=>K v H0) else .non
   | .val [.ro .bool m], .val [.ro .bool n]=>match ti Θ t with
     | some i=>match i.kind with
       | .bool=>boolBin op m n (fun v=>K v H0)
       | _=> .non
     | none=> .non
   | .val [.ro .str m], .val [.ro .str n]=>match ti Θ t with
     | some i=>match i.kind with
       | .str=>strBin op m n (fun v=>K v H0)
       | _=> .non
     | none=> .non
   | .val [.ptr _ _], .val [.nilp]=>match ti Θ t with
     | some i=>match i.kind with
       | .ptr=>ptrBin op false (fun v=>K v H0)
       | _=> .non
     | none=> .non
   | .val [.nilp], .val [.nilp]=>match ti Θ t with
     | some i=>match i.kind with
       | .ptr=>ptrBin op true (fun v=>K v H0)
       | _=> .non
     | none=> .non
   | _,_=> .non
 | .unOp op _ x=>match op,opnd tm x with
   | .not, .val [.ro .bool b]=>K (bv (!b)) H0
   | .neg, .val [.ro (.int k) n]=>K (iv k (wr k (-(n:Int)))) H0
   | .xor, .val [.ro (.int k) n]=>K (iv k (Go.bits .xor k (if k.signed then -1 else k.max) n)) H0
   | _,_=> .non
 | .convert s t x=>match opnd tm x,ti Θ s,ti Θ t with
   | .val [.ro (.int _) n],some _,some i=>match i.kind with
     | .int k'=>K (iv k' (wr k' n)) H0
     | _=> .non
   | _,_,_=> .non
 | .nilCheck x=>match opnd tm x with
   | .val [.ptr j o]=>K (.val [.ptr j o]) H0
   | _=> .non
 | .extract x i=>match opnd tm x with
   | .tup ts=>match ts[i]? with
     | some cs=>K (.val cs) H0
     | none=> .non
   | _=> .non
 | .load t x=>match opnd tm x,ti Θ t with
   | .val [.ptr j o],some i=>match hp[j]? with
     | some (.cells _ _ cs)=>if o+i.size≤cs.length then K (.val ((cs.drop o).take i.size)) H0 else .non
     | _=> .non
   | .val [.rel t' y],some i=>if i.size=t'.size then K (.val (expl t' y)) H0 else .non
   | .val [.elt j q o sz],some i=>match hp[j]? with
     | some (.row _ _ t' xs)=>if sz=t'.size then (match part t' ((xs:List (T t')).getD q.toNat (dflt t')) o i.size with
       | some (.rel t2 y)=>if i.size=t2.size then K (.val (expl t2 y)) H0 else .non
       | _=> .non) else .non
     | _=> .non
   | _,_=> .non
 | .store t x y=>match opnd tm x,opnd tm y,ti Θ t with
   | .val [.ptr j o], .val xs,some i=>match hp[j]? with
     | some (.cells q e cs)=>if xs.length=i.size∧o+i.size≤cs.length then K .junk ⟨none,[(j, .cells q e (cs.take o++xs++cs.drop (o+i.size)))]⟩ else .non
     | _=> .non
   | .val [.elt j q 0 sz], .val ys,some i=>match hp[j]? with
     | some (.row lq e t' xs)=>if sz=t'.size∧i.size=sz∧inFz (fzs hp ys) j=false then (match toT hp t' ys with
       | some (y,[])=>K .junk ⟨none,(j, .row lq e t' ((xs:List (T t')).set q.toNat y))::fzs hp ys⟩
       | _=> .non) else .non
     | _=> .non
   | .val [.aptr j], .val ys,some i=>match i.kind with
     | .arr n _=>match hp[j]? with
       | some (.row lq e t' xs)=>if i.size=n*t'.size∧inFz (fzs hp ys) j=false then (match rows hp t' n ys with
         | some xs'=>Tree.tst ((xs:List (T t')).length=n) (K .junk ⟨none,(j, .row lq e t' xs')::fzs hp ys⟩) .non
         | none=> .non) else .non
       | _=> .non
     | _=> .non
   | _,_,_=> .non
 | .fieldAddr s x f=>match opnd tm x,ti Θ s with
   | .val [.ptr j o],some i=>match i.kind with
     | .struct fs=>match fs[f]? with
       | some (off,sz)=>if sz=0 then .non else K (.val [.ptr j (o+off)]) H0
       | none=> .non
     | _=> .non
   | .val [.elt j q o z],some i=>match i.kind with
     | .struct fs=>match fs[f]? with
       | some (off,sz)=>if sz=0 then .non else K (.val [.elt j q (o+off) z]) H0
       | none=> .non
     | _=> .non
   | .val [.rel t y],some i=>match i.kind with
     | .struct fs=>match fs[f]? with
       | some (off,sz)=>if sz=0 then .non else match part t y off sz with
         | some c=>K (.val [c]) H0
         | none=> .non
       | none=> .non
     | _=> .non
   | _,_=> .non
 | .indexAddr t x y=>match opnd tm x,opnd tm y,ti Θ t with
   | .val [.ro (.row e t') xs], .val [.ro (.int _) i],some q=>match q.kind with
     | .slice e'=>match ti Θ e' with
       | some z=>if e=e'∧z.size=t'.size then Tree.tst ((0:Int)≤i) (Tree.tst ((i:Int)<((xs:List (T t')).length:Int)) (K (.val [.rel t' ((xs:List (T t')).getD (i:Int).toNat (dflt t'))]) H0) .non) .non else .non
       | none=> .non
     | _=> .non
   | .val [.aptr j], .val [.ro (.int _) i],some q=>match q.kind with
     | .arr n e'=>match ti Θ e' with
       | some z=>match hp[j]? with
         | some (.row _ _ t' xs)=>if z.size=t'.size then Tree.tst ((0:Int)≤i) (Tree.tst ((i:Int)<(n:Int)) (Tree.tst ((i:Int)<((xs:List (T t')).length:Int)) (K (.val [.elt j i 0 t'.size]) H0) .non) .non) .non else .non
         | _=> .non
       | none=> .non
     | _=> .non
   | .val [.own j], .val [.ro (.int _) i],some q=>match q.kind with
     | .slice e'=>match ti Θ e' with
       | some z=>match hp[j]? with
         | some (.row _ e t' xs)=>if e=e'∧z.size=t'.size then Tree.tst ((0:Int)≤i) (Tree.tst ((i:Int)<((xs:List (T t')).length:Int)) (K (.val [.elt j i 0 t'.size]) H0) .non) .non else .non
         | some (.fro e t' xs)=>if e=e'∧z.size=t'.size then Tree.tst ((0:Int)≤i) (Tree.tst ((i:Int)<((xs:List (T t')).length:Int)) (K (.val [.rel t' ((xs:List (T t')).getD (i:Int).toNat (dflt t'))]) H0) .non) .non else .non
         | _=> .non
       | none=> .non
     | _=> .non
   | _,_,_=> .non
 | .index t x y=>match ti Θ t with
   | some q=>match q.kind with
     | .str=>match opnd tm x,opnd tm y with
       | .val [.ro .str s], .val [.ro (.int _) i]=>Tree.tst ((0:Int)≤i) (Tree.tst ((i:Int)<((s:ByteArray).size:Int)) (K (iv .u8 (bt s i)) H0) .non) .non
       | _,_=> .non
     | .arr n e=>match opnd tm x,opnd tm y,ti Θ e with
       | .val cs, .val [.ro (.int _) i],some z=>if cs.length=n*z.size∧cs.length≠1 then Tree.tst ((0:Int)≤i) (Tree.tst ((i:Int)<(n:Int)) (K (.val ((cs.drop ((i:Int).toNat*z.size)).take z.size)) H0) .non) .non else .non
       | _,_,_=> .non
     | _=> .non
   | none=> .non
 | .box e x=>match opnd tm x,d with
   | .val cs,some t=>match ti Θ e with
     | some i=>match i.kind with
       | .arr n e'=>match ti Θ e' with
         | some z=>match z.ty with
           | some ty=>if z.size=ty.size∧n≠0∧n≤1000∧z.size≤1000 then (match rows hp ty n cs with
             | some xs=>K (.val [.aptr t]) ⟨some (.row .mine e ty xs),fzs hp cs⟩
             | none=> .non) else .non
           | none=> .non
         | none=> .non
       | _=>K (.val [.ptr t 0]) ⟨some (.cells .mine e cs),[]⟩
     | none=>K (.val [.ptr t 0]) ⟨some (.cells .mine e cs),[]⟩
   | _,_=> .non
 | .alloc e=>match ti Θ e,d with
   | some i,some t=>match i.kind with
     | .arr n e'=>match ti Θ e' with
       | some z=>match z.ty with
         | some ty=>if z.size=ty.size∧n≠0∧n≤1000∧z.size≤1000∧noOwn i.zero=true then (match rows hp ty n i.zero with
           | some xs=>K (.val [.aptr t]) ⟨some (.row .mine e ty xs),fzs hp i.zero⟩
           | none=> .non) else .non
         | none=> .non
       | none=> .non
     | _=>K (.val [.ptr t 0]) ⟨some (.cells .mine e i.zero),[]⟩
   | _,_=> .non
 | .build t ps=>match ti Θ t with
   | some i=>match i.kind with
     | .struct fs=>if fs.all (fun p=>p.2 !=0)=true then (match fillC (fs[·]?) i.zero (ps.toList.map fun p=>(p.1,opnd tm p.2)) with
       | some cs=>if cs.length=1 then .non else K (.val cs) H0
       | none=> .non) else .non
     | .arr n e=>match ti Θ e with
       | some z=>(match fillC (fun i=>some (i*z.size,z.size)) i.zero (ps.toList.map fun p=>(p.1,opnd tm p.2)) with
         | some cs=>if cs.length=1 then .non else K (.val cs) H0
         | none=> .non)
       | none=> .non
     | _=> .non
   | none=> .non
 | .buildSlice t n ps=>match ti Θ t with
   | some i=>match i.kind with
     | .slice e=>match ti Θ e with
       | some z=>match z.ty with
         | some ty=>if z.size=ty.size∧n*z.size≤1000∧noOwn z.zero=true then (match fillC (fun i=>some (i*z.size,z.size)) ((List.range n).flatMap fun _=>z.zero) (ps.toList.map fun p=>(p.1,opnd tm p.2)),d with
           | some cs,some q=>match rows hp ty n cs with
             | some xs=>if n=0 then K (.val [.own q]) ⟨some (.row .mine e ty xs),[]⟩ else K (.val [.ro (.row e ty) xs]) ⟨none,fzs hp cs⟩
             | none=> .non
           | _,_=> .non) else .non
         | none=> .non
       | none=> .non
     | _=> .non
   | none=> .non
 | .makeSlice t x y=>match ti Θ t,d with
   | some i,some q=>match i.kind with
     | .slice e=>match ti Θ e with
       | some z=>match z.ty with
         | some ty=>if z.size=ty.size∧zeroOk ty z.zero=true∧z.bytes≠0 then (match opnd tm x,opnd tm y with
           | .val [.ro (.int _) n], .val [.ro (.int _) c]=>Tree.tst ((0:Int)≤n) (Tree.tst ((n:Int)≤c) (Tree.tst ((c:Int).toNat*z.bytes≤281474976710656) (K (.val [.own q]) ⟨some (.row .mine e ty (List.replicate (n:Int).toNat (dflt ty))),[]⟩) .non) .non) .non
           | _,_=> .non) else .non
         | none=> .non
       | none=> .non
     | _=> .non
   | _,_=> .non
 | .makeMap t none=>match d with
   | some q=>if mapB Θ t=true then K (.val [.own q]) ⟨some (.map []),[]⟩ else .non
   | none=> .non
 | .lookup t x y false=>match opnd tm x,opnd tm y with
   | .val [.own j], .val [.ro (.int k) n]=>match hp[j]? with
     | some (.map xs)=>if mapB Θ t=true∧isI64 k=true then K (iv .i64 (mget xs n)) H0 else .non
     | _=> .non
   | _,_=> .non
 | .mapUpdate t x y z=>match opnd tm x,opnd tm y,opnd tm z,d with
   | .val [.own j], .val [.ro (.int k) n], .val [.ro (.int k') v],none=>match hp[j]? with
     | some (.map xs)=>if mapB Θ t=true∧isI64 k=true∧isI64 k'=true then K .junk ⟨none,[(j, .map (mput xs n v))]⟩ else .non
     | _=> .non
   | _,_,_,_=> .non
 | .slice t x lo hi mx=>match ti Θ t,mx with
   | some i,none=>match i.kind,opnd tm x,bnd? tm lo,bnd? tm hi with
     | .slice e, .val [c],some l,some h=>match ti Θ e with
       | some z=>match z.ty with
         | some ty=>if z.size=ty.size then (match rdRow hp e ty c with
           | some xs=>fO h ((xs:List (T ty)).length:Int) fun h'=>fO l 0 fun l' =>
             Tree.tst ((0:Int)≤l') (Tree.tst (l'≤h') (Tree.tst (h'≤((xs:List (T ty)).length:Int)) (K (.val [.ro (.row e ty) (((xs:List (T ty)).take h'.toNat).drop l'.toNat)]) ⟨none,fzs hp [c]⟩) .non) .non) .non
           | none=> .non) else .non
         | none=> .non
       | none=> .non
     | .str, .val [.ro .str s],some l,some h=>fO h ((s:ByteArray).size:Int) fun h'=>fO l 0 fun l' =>
       Tree.tst ((0:Int)≤l') (Tree.tst (l'≤h') (Tree.tst (h'≤((s:ByteArray).size:Int)) (K (.val [.ro .str ((s:ByteArray).extract l'.toNat h'.toNat)]) H0) .non) .non) .non
     | _,_,_,_=> .non
   | _,_=> .non
 | .call c=>match c.callee with
   | .value (.func g)=>match S g with
     | some (.io s nm)=>match argsP hp tm s.ps c.args.toList with
       | some x=>if lendB hp tm s.ps c.args.toList (lookN nm (keyN d c.args.toList))=true then Tree.cll (s.f k x) fun r=>K (resV s.rs r.1) ⟨none,aftP hp tm (lentOf (mineP hp tm s.ps c.args.toList)) s.ps r.2 c.args.toList (lookN nm (keyN d c.args.toList))++pFz hp tm s.ps c.args.toList⟩ else .non
       | none=> .non
     | some (.pu s)=>match args hp tm s.ps c.args.toList with
       | some x=>Tree.cll (s.f k x) fun r=>K (resV s.rs r) ⟨none,if s.rs.all noRow=true then [] else argFz hp tm c.args.toList⟩
       | none=> .non
     | some (.nw s)=>match args hp tm s.ps c.args.toList,d with
       | some x,some q=>Tree.cll (s.f k x) fun r=>K (.val [.own q]) ⟨some (.row .mine s.e s.t r),argFz hp tm c.args.toList⟩
       | _,_=> .non
     | none=> .non
   | .builtin .len=>match c.args.toList,c.argTypes.toList with
     | [x],[t]=>match opnd tm x,ti Θ t with
       | .val [.ro (.row _ t') xs],some i=>match i.kind with
         | .slice _=>K (iv .i64 ((xs:List (T t')).length:Int)) H0
         | _=> .non
       | .val [.nils],some i=>match i.kind with
         | .slice _=>K (iv .i64 0) H0
         | _=> .non
       | .val [.own j],some i=>match i.kind with
         | .slice _=>match hp[j]? with
           | some (.row _ _ t' xs)=>K (iv .i64 ((xs:List (T t')).length:Int)) H0
           | some (.fro _ t' xs)=>K (iv .i64 ((xs:List (T t')).length:Int)) H0
           | _=> .non
         | _=> .non
       | .val [.ro .str s],some i=>match i.kind with
         | .str=>K (iv .i64 ((s:ByteArray).size:Int)) H0
         | _=> .non
       | _,_=> .non
     | _,_=> .non
   | .builtin .max=>match c.args.toList with
     | [x,y]=>match opnd tm x,opnd tm y with
       | .val [.ro (.int k) m], .val [.ro (.int _) n]=>K (iv k (mx m n)) H0
       | _,_=> .non
     | _=> .non
   | .builtin .min=>match c.args.toList with
     | [x,y]=>match opnd tm x,opnd tm y with
       | .val [.ro (.int k) m], .val [.ro (.int _) n]=>K (iv k (mn m n)) H0
       | _,_=> .non
     | _=> .non
   | .builtin .append=>match c.args.toList,c.argTypes.toList,d with
     | [x,y],[t,t2],some q=>if t=t2 then (match ti Θ t with
       | some i=>match i.kind with
         | .slice e=>match ti Θ e with
           | some z=>match z.ty with
             | some ty=>if z.size=ty.size∧z.bytes≠0 then (match opnd tm x,opnd tm y with
               | .val [cx], .val [cy]=>match growRow hp e ty cx,rdAny hp e ty cy with
                 | some (src,lq,xs),some ys=>Tree.tst (((xs:List (T ty)).length+(ys:List (T ty)).length)*z.bytes≤140737488355328) (K (.val [.own q]) ⟨some (.row lq e ty (xs++ys)),src⟩) .non
                 | _,_=> .non
               | _,_=> .non) else .non
             | none=> .non
           | none=> .non
         | _=> .non
       | none=> .non) else .non
     | _,_,_=> .non
   | _=> .non
 | _=> .non
end
end Go.Proofs.YtjocbnjpjihpnaaGreatW.Abs

end
section
namespace Go.Proofs.YtjocbnjpjihpnaaGreatW.Abs
open Go.RowKit Go.Proofs.YtjocbnjpjihpnaaGreatW.PrintWords Go.Proofs.YtjocbnjpjihpnaaGreatW.PrintLast Go.Proofs.YtjocbnjpjihpnaaGreatW.PrintMore
set_option linter.unusedVariables false
set_option linter.unusedSectionVars false
set_option linter.unusedSimpArgs false

def Goes (P:Program) (o:Oper) (U0:Nat→Prop) (ν:Nat→Value) (tm:List AV) (hp:List AB) (w0:St) (a:Act) (w:World) (x:AV) (δ:HC):Prop :=
 hok o.dst hp δ=true→ ∀ (next:Act→World→Prop) (Q:Exit→Act→World→Prop),
  (∀ ν' v w',Inv U0 ν' (putT tm o.dst x) (happ o.dst hp δ) w0 (a.put o.dst v) w'→next (a.put o.dst v) w')→o.wp P a w next Q
section
variable {P:Program} {o:Oper} {U0:Nat→Prop} {ν:Nat→Value} {L:Nat→Prop} {tm:List AV} {hp:List AB} {w0:St} {w:World} {a:Act}
theorem goes_value (I:Inv U0 ν tm hp w0 a w) {x:AV} {v:Value} (hrun:(execOp a.eval o).run P w= .ok (.value v) w) (hx:RelV U0 ν (lv hp) w x v):Goes P o U0 ν tm hp w0 a w x H0:=by
 intro _ next Q h
 unfold Oper.wp
 rw [hrun]
 exact h ν v w (I.put_pure o.dst hx)
theorem all2_one {R:AC→Value→Prop} {c:AC} {vs:List Value} (h:All2 R [c] vs) : ∃ v,vs= [v]∧R c v:=by
 match vs,h with
 | [v],h=>exact ⟨v,rfl,h.1⟩
 | [],h=>exact h.elim
 | _::_::_,h=>exact h.2.elim
theorem val_one {c:AC} {v:Value} (h:RelV U0 ν L w (.val [c]) v):RelC U0 ν L w c v:=by
 obtain ⟨vs,h1,h2⟩:=h
 obtain ⟨u,rfl,h3⟩:=all2_one h2
 rw [h1]
 exact h3
theorem rel_nilp {v:Value} (h:RelC U0 ν L w .nilp v):v= .pointer none:=h
theorem of_one {c:AC} {v:Value} (h:RelC U0 ν L w c v):RelV U0 ν L w (.val [c]) v:=⟨[v],rfl,h,trivial⟩
theorem ro_int {k:IntKind} {n:Int} {v:Value} (h:RelV U0 ν L w (.val [.ro (.int k) n]) v):v= .int k n:=by
 have:=(val_one h).2
 exact (List.cons.inj this).1
theorem ro_bool {b:Bool} {v:Value} (h:RelV U0 ν L w (.val [.ro .bool b]) v):v= .bool b:=by
 have:=(val_one h).2
 exact (List.cons.inj this).1
theorem ro_str {s:ByteArray} {v:Value} (h:RelV U0 ν L w (.val [.ro .str s]) v):v= .string s:=by
 have:=(val_one h).2
 exact (List.cons.inj this).1
theorem rel_iv (k:IntKind) (n:Int):RelV U0 ν L w (iv k n) (.int k n):=of_one ⟨rfl,rfl⟩
theorem rel_bv (b:Bool):RelV U0 ν L w (bv b) (.bool b):=of_one ⟨rfl,rfl⟩
end
section
variable {P:Program} {Θ:Tab} {S:FuncId→Option FE} {k:Nat} {o:Oper} {U0:Nat→Prop} {ν:Nat→Value} {tm:List AV} {hp:List AB} {w0:St} {w:World} {a:Act} {R:Type} {K:AV→HC→Tree R} {r:R}
def StepOk (P:Program) (Θ:Tab) (S:FuncId→Option FE) (k:Nat) (o:Oper) (U0:Nat→Prop) (ν:Nat→Value) (tm:List AV) (hp:List AB) (w0:St) (a:Act) (w:World) {R:Type} (K:AV→HC→Tree R) (r:R):Prop :=
 ∃ x δ,(K x δ).run=some r∧Goes P o U0 ν tm hp w0 a w x δ
theorem ok_move (I:Inv U0 ν tm hp w0 a w) {x:Operand} (ho:o.op= .move x∨o.op= .assign x) (h:(K (opnd tm x) H0).run=some r):StepOk P Θ S k o U0 ν tm hp w0 a w K r:=by
 refine ⟨_,_,h,goes_value I (v:=a.eval x) ?_ (I.opnd x)⟩
 rcases ho with ho | ho<;>simp [execOp,ho]
theorem ok_pick (I:Inv U0 ν tm hp w0 a w) {c x y:Operand} (ho:o.op= .pick c x y) (h:(stepT Θ S k tm hp o.dst (.pick c x y) K).run=some r):StepOk P Θ S k o U0 ν tm hp w0 a w K r:=by
 simp only [stepT] at h
 split at h
 · rename_i b hc
   have hv:=ro_bool (hc▸I.opnd c)
   rcases Tree.tst_run h with ⟨hb,h⟩ | ⟨hb,h⟩
   · refine ⟨_,_,h,goes_value I (v:=a.eval x) ?_ (I.opnd x)⟩
     simp [execOp,ho,hv,asBool,hb]
   · refine ⟨_,_,h,goes_value I (v:=a.eval y) ?_ (I.opnd y)⟩
     simp [execOp,ho,hv,asBool,hb]
 · cases h
theorem kind_of (hΘ:Θ.ok P=true) {t:TypeId} {i:TI} (h:ti Θ t=some i) : ∃ f d,P.info? t=some f∧P.underlying t=some d∧f.size=i.size∧f.bytes=i.bytes∧kindB P d i.kind=true∧aggB d=(i.size !=1)∧i.zero.length=i.size∧ ∃ z:List Value,f.zero=some (mkV z)∧zcs z i.zero=true:=tiB_info (ti_ok hΘ h)
theorem kind_bool {d:TypeDesc} (h:kindB P d .bool=true):d= .bool:=by
 cases d<;>simp [kindB] at h<;>rfl
theorem kind_slice {d:TypeDesc} {e:TypeId} (h:kindB P d (.slice e)=true):d= .slice e:=by
 cases d<;>simp [kindB] at h
 rw [h]
theorem kind_struct {d:TypeDesc} {gs:List (Nat × Nat)} (h:kindB P d (.struct gs)=true) : ∃ fs,d= .struct fs∧fs.toList.map (fun f=>(f.offset,((P.info? f.type).map (·.size)).getD 0))=gs:=by
 cases d<;>simp [kindB] at h
 exact ⟨_,rfl,by simpa using h⟩
theorem kind_arr {d:TypeDesc} {n:Nat} {e:TypeId} (h:kindB P d (.arr n e)=true):d= .array n e:=by
 cases d<;>simp [kindB] at h
 rw [h.1,h.2]
theorem kind_str {d:TypeDesc} (h:kindB P d .str=true):d= .string:=by
 cases d<;>simp [kindB] at h<;>rfl
theorem shl_run (k k':IntKind) (x y:Int) (h:0≤y):Op.shift .shl k x k' y=pure (.int k (shl k x y)):=by
 simp [Op.shift,shl];omega
theorem shr_run (k k':IntKind) (x y:Int) (h:0≤y):Op.shift .shr k x k' y=pure (.int k (shr k x y)):=by
 have hp:(0:Int)≤2^min y.toNat k.bits:=Int.pow_nonneg (by decide)
 simp [Op.shift,shr,Int.fdiv_eq_ediv_of_nonneg _ hp];omega
theorem kind_ptr {d:TypeDesc} (h:kindB P d .ptr=true) : ∃ e,d= .pointer e:=by
 cases d<;>simp [kindB] at h
 exact ⟨_,rfl⟩
theorem ok_ptrBin (hΘ:Θ.ok P=true) (I:Inv U0 ν tm hp w0 a w) {b:BinOp} {t u:TypeId} {x y:Operand} {i:TI} {A:Option Addr} (ho:o.op= .binOp b t x y u) (hi:ti Θ t=some i) (hk:i.kind= .ptr) (h1:a.eval x= .pointer A) (h2:a.eval y= .pointer none) (h:(ptrBin b A.isNone (fun v=>K v H0)).run=some r):StepOk P Θ S k o U0 ν tm hp w0 a w K r:=by
 obtain ⟨f,d,_,ht,_,_,hd,_⟩:=kind_of hΘ hi
 rw [hk] at hd
 obtain ⟨e,rfl⟩:=kind_ptr hd
 have key:(Op.equal t (.pointer A) (.pointer none)).run P w= .ok A.isNone w:=by
  unfold Op.equal Op.maxDepth Op.equalIn
  cases A with
  | none=>simp [run_underlying ht]
  | some ad=>simp [run_underlying ht]
 unfold ptrBin at h
 cases b<;>simp only at h<;>first
  | exact (Tree.non_run h).elim
  | exact ⟨_,_,h,goes_value I (by simp only [execOp,ho,h1,h2];simp [eqGuard,binOp,key]) (rel_bv _)⟩
theorem ok_binOp (hΘ:Θ.ok P=true) (I:Inv U0 ν tm hp w0 a w) {b:BinOp} {t u:TypeId} {x y:Operand} (ho:o.op= .binOp b t x y u) (h:(stepT Θ S k tm hp o.dst (.binOp b t x y u) K).run=some r):StepOk P Θ S k o U0 ν tm hp w0 a w K r:=by
 simp only [stepT] at h
 split at h
 · rename_i k m k' n hx hy
   have h1:=ro_int (hx▸I.opnd x)
   have h2:=ro_int (hy▸I.opnd y)
   split at h
   · unfold shiftBin at h
     cases b<;>simp only at h<;>first
      | exact (Tree.non_run h).elim
      | (obtain ⟨hn,h⟩:=Tree.need h
         exact ⟨_,_,h,goes_value I (by simp only [execOp,ho,h1,h2];simp [go_sem,shl_run _ _ _ _ hn,shr_run _ _ _ _ hn]) (rel_iv _ _)⟩)
   · split at h
     · rename_i hk
       subst hk
       unfold intBin at h
       cases b<;>simp only [wr_eq] at h<;>first
        | exact (Tree.non_run h).elim
        | exact ⟨_,_,h,goes_value I (by simp only [execOp,ho,h1,h2];simp [go_sem];rfl) (by first | exact rel_iv _ _ | exact rel_bv _)⟩
        | (obtain ⟨hn,h⟩:=(Tree.tst_run h).resolve_left (fun q=>Tree.non_run q.2)
           exact ⟨_,_,h,goes_value I (by simp only [execOp,ho,h1,h2];simp [go_sem,Op.intDiv,hn]) (rel_iv _ _)⟩)
     · cases h
 · rename_i m n hx hy
   have h1:=ro_bool (hx▸I.opnd x)
   have h2:=ro_bool (hy▸I.opnd y)
   split at h
   · rename_i i hi
     split at h
     · rename_i hk
       obtain ⟨f,d,_,ht,_,_,hd,_⟩:=kind_of hΘ hi
       rw [hk] at hd
       rw [kind_bool hd] at ht
       unfold boolBin at h
       cases b<;>simp only at h<;>first
        | exact (Tree.non_run h).elim
        | exact ⟨_,_,h,goes_value I (by simp only [execOp,ho,h1,h2];simp [go_sem,ht];rfl) (by first | exact rel_iv _ _ | exact rel_bv _)⟩
     · cases h
   · cases h
 · rename_i m n hx hy
   have h1:=ro_str (hx▸I.opnd x)
   have h2:=ro_str (hy▸I.opnd y)
   split at h
   · rename_i i hi
     split at h
     · rename_i hk
       obtain ⟨f,d,_,ht,_,_,hd,_⟩:=kind_of hΘ hi
       rw [hk] at hd
       rw [kind_str hd] at ht
       unfold strBin at h
       cases b
       case add =>
        simp only at h
        obtain ⟨hn,h⟩:=Tree.need h
        refine ⟨_,_,h,goes_value I (v:= .string (m++n)) ?_ (of_one (c:= .ro .str (m++n)) ⟨rfl,rfl⟩)⟩
        simp only [execOp,ho,h1,h2]
        have hmax : ¬ ((ByteArray.size m+ByteArray.size n:Nat):Int)>IntKind.i64.max:=by simp only [IntKind.max,IntKind.signed,IntKind.bits];omega
        simp [go_sem,ht,Op.stringOp,hmax]
        omega
       case eql=>exact ⟨_,_,h,goes_value I (v:= .bool ((m:ByteArray).toList==(n:ByteArray).toList)) (by simp only [execOp,ho,h1,h2];simp [go_sem,ht];done) (rel_bv _)⟩
       case neq=>exact ⟨_,_,h,goes_value I (v:= .bool (!((m:ByteArray).toList==(n:ByteArray).toList))) (by simp only [execOp,ho,h1,h2];simp [go_sem,ht];done) (rel_bv _)⟩
       all_goals exact (Tree.non_run h).elim
     · cases h
   · cases h
 · rename_i j off hx hy
   split at h
   · rename_i i hi
     split at h
     · rename_i hk
       obtain ⟨_,g,_,h1⟩:=val_one (hx▸I.opnd x)
       have h2:a.eval y= .pointer none:=rel_nilp (val_one (hy▸I.opnd y))
       exact ok_ptrBin hΘ I ho hi hk h1 h2 h
     · cases h
   · cases h
 · rename_i hx hy
   split at h
   · rename_i i hi
     split at h
     · rename_i hk
       have h1:a.eval x= .pointer none:=rel_nilp (val_one (hx▸I.opnd x))
       have h2:a.eval y= .pointer none:=rel_nilp (val_one (hy▸I.opnd y))
       exact ok_ptrBin hΘ I ho hi hk h1 h2 h
     · cases h
   · cases h
 · cases h
theorem ok_unOp (I:Inv U0 ν tm hp w0 a w) {b:UnOp} {t:TypeId} {x:Operand} (ho:o.op= .unOp b t x) (h:(stepT Θ S k tm hp o.dst (.unOp b t x) K).run=some r):StepOk P Θ S k o U0 ν tm hp w0 a w K r:=by
 simp only [stepT] at h
 split at h
 · rename_i m hx
   have h1:=ro_bool (hx▸I.opnd x)
   exact ⟨_,_,h,goes_value I (by simp only [execOp,ho,h1];simp [go_sem]) (rel_bv (!m))⟩
 · rename_i k n hx
   have h1:=ro_int (hx▸I.opnd x)
   rw [wr_eq] at h
   refine ⟨_,_,h,goes_value I ?_ (rel_iv k (k.wrap (-(n:Int))))⟩
   simp only [execOp,ho,h1]
   simp [go_sem]
 · rename_i k n hx
   have h1:=ro_int (hx▸I.opnd x)
   refine ⟨_,_,h,goes_value I ?_ (rel_iv k _)⟩
   simp only [execOp,ho,h1]
   simp [go_sem,Op.unary]
 · cases h
theorem ok_nilCheck (I:Inv U0 ν tm hp w0 a w) {x:Operand} (ho:o.op= .nilCheck x) (h:(stepT Θ S k tm hp o.dst (.nilCheck x) K).run=some r):StepOk P Θ S k o U0 ν tm hp w0 a w K r:=by
 simp only [stepT] at h
 split at h
 · rename_i j off hx
   have hr:=I.opnd x
   rw [hx] at hr
   obtain ⟨hj,g,hν,hv⟩:=val_one hr
   refine ⟨_,_,h,goes_value I (v:=a.eval x) ?_ hr⟩
   simp [execOp,ho,hv]
 · cases h
theorem kind_int {d:TypeDesc} {k:IntKind} (h:kindB P d (.int k)=true):d= .int k:=by
 cases d<;>simp [kindB] at h
 rw [h]
theorem ok_convert (hΘ:Θ.ok P=true) (I:Inv U0 ν tm hp w0 a w) {s t:TypeId} {x:Operand} (ho:o.op= .convert s t x) (h:(stepT Θ S k tm hp o.dst (.convert s t x) K).run=some r):StepOk P Θ S k o U0 ν tm hp w0 a w K r:=by
 simp only [stepT] at h
 split at h
 · rename_i k' n j i hx hj hi
   split at h
   · rename_i k2 hk
     have h1:=ro_int (hx▸I.opnd x)
     obtain ⟨_,d,_,hd,_,_,hB,_⟩:=kind_of hΘ hi
     rw [hk] at hB
     rw [kind_int hB] at hd
     obtain ⟨_,d',_,hd',_⟩:=kind_of hΘ hj
     rw [wr_eq] at h
     refine ⟨_,_,h,goes_value I (v:= .int k2 (k2.wrap n)) ?_ (rel_iv _ _)⟩
     simp only [execOp,ho,h1]
     simp [go_sem,hd,hd']
   · cases h
 · cases h
theorem ok_extract (I:Inv U0 ν tm hp w0 a w) {x:Operand} {i:Nat} (ho:o.op= .extract x i) (h:(stepT Θ S k tm hp o.dst (.extract x i) K).run=some r):StepOk P Θ S k o U0 ν tm hp w0 a w K r:=by
 simp only [stepT] at h
 split at h
 · rename_i ts hx
   split at h
   · rename_i cs hc
     have hr:=I.opnd x
     rw [hx] at hr
     obtain ⟨us,h1,h2⟩:=hr
     obtain ⟨u,hu,vs,e,hv⟩:=h2.get hc
     refine ⟨_,_,h,goes_value I (v:=u) ?_ ⟨vs,e,hv⟩⟩
     simp [execOp,ho,h1,Instr.extract,hu]
   · cases h
 · cases h
end
end Go.Proofs.YtjocbnjpjihpnaaGreatW.Abs

end
section
namespace Go.Proofs.YtjocbnjpjihpnaaGreatW.Abs
open Go.RowKit Go.Proofs.YtjocbnjpjihpnaaGreatW.PrintWords Go.Proofs.YtjocbnjpjihpnaaGreatW.PrintLast Go.Proofs.YtjocbnjpjihpnaaGreatW.PrintMore
set_option linter.unusedVariables false
set_option linter.unusedSectionVars false

theorem mkV_ne {vs:List Value} (h:vs.length≠1):mkV vs= .agg vs.toArray:=by
 unfold mkV
 split
 · exact absurd rfl h
 · rfl
theorem run_isAgg {P:Program} {w:World} {t:TypeId} {d:TypeDesc} (h:P.underlying t=some d):(isAgg t).run P w= .ok (aggB d) w:=by
 unfold isAgg
 simp only [Sem.run_bind,run_underlying h,Result.andThen_ok]
 cases d<;>simp [aggB]
theorem run_loadAt {P:Program} {w:World} {t:TypeId} {f:TypeInfo} {d:TypeDesc} {n:Nat} {ad:Addr} {vs:List Value} (hf:P.info? t=some f) (hd:P.underlying t=some d) (hn:f.size=n) (ha:aggB d=(n !=1)) (hl:vs.length=n) (hc : ∀ i,i<n→w.cell? (ad.add i)=vs[i]?) :
 (Instr.loadAt t (.pointer (some ad))).run P w= .ok (mkV vs) w:=by
 unfold Instr.loadAt Instr.sureAddr loadVar
 simp only [Sem.run_bind,Sem.run_pure,Result.andThen_ok,run_isAgg hd,ha]
 by_cases h1:n=1
 · subst h1
   obtain ⟨v,rfl⟩:=List.length_eq_one_iff.1 hl
   have:=hc 0 (by omega)
   rw [Addr.add_zero'] at this
   simp [run_load,this,mkV]
 · have hb:(n !=1)=true:=by simpa using h1
   have hL:=run_loadCells_list (P:=P) w ad vs (fun j v hv=>by
    have hj:j<n:=by rw [← hl];exact (List.getElem?_eq_some_iff.1 hv).1
    rw [hc j hj,hv])
   rw [hl] at hL
   have hs:(sizeOf t).run P w= .ok n w:=by simp [sizeOf,typeInfo,hf,hn]
   rw [mkV_ne (by omega)]
   simp [hb,hs,hL]
section
variable {P:Program} {Θ:Tab} {S:FuncId→Option FE} {k:Nat} {o:Oper} {U0:Nat→Prop} {ν:Nat→Value} {L:Nat→Prop} {tm:List AV} {hp:List AB} {w0:St} {w:World} {a:Act} {R:Type} {K:AV→HC→Tree R} {r:R}
theorem Inv.cells (I:Inv U0 ν tm hp w0 a w) {j:Nat} {lq:Lq} {e:TypeId} {cs:List AC} (hb:hp[j]? =some (.cells lq e cs)) : ∃ g vs,ν j= .pointer (some ⟨g,0,none⟩)∧Mine w0 lq g∧w.heap[g]? =some (.cells vs.toArray e (0,0))∧All2 (RelC U0 ν (lv hp) w) cs vs∧ ∀ v∈vs,v.oneCell'=true:=by
 obtain ⟨g,vs,q1,q2,q3,q4⟩:=I.mem j _ hb rfl
 refine ⟨g,vs,q1,q2,q3,q4,fun v hv=> ?_⟩
 obtain ⟨c,_,hr⟩:=q4.mem v hv
 exact hr.one I.ones
theorem Inv.elt (I:Inv U0 ν tm hp w0 a w) {j:Nat} {lq:Lq} {e:TypeId} {t:Ty} {xs:List (T t)} (hb:hp[j]? =some (.row lq e t xs)) {i:Int} {off sz:Nat} {v:Value} (hv:RelC U0 ν (lv hp) w (.elt j i off sz) v) (hz:sz=t.size) :
 ∃ g cap cur inner,ν j= .slice (some ⟨g,0,none⟩) (List.length xs) cap∧Mine w0 lq g∧w.heap[g]? =some (.cells cur e (0,0))∧cur.toList.take (List.length xs*(kd t).sz)=inner∧w.ownsRow (bs w0 lq) e (kd t).sz (ν j) (List.length xs) inner∧Reps (fun x c=>Rd (Un U0 ν (lv hp)) w t x c) (kd t).sz xs inner∧i.toNat<List.length xs∧v= .pointer (some ⟨g,i.toNat*t.size+off,none⟩):=by
 obtain ⟨hj,g,n,c,h1,⟨_,h2⟩,h3⟩:=hv
 obtain ⟨⟨inner,h4,h5⟩,hmn⟩:=I.mem j _ hb rfl
 rcases h4.2 with ⟨q,_⟩ | ⟨g',cap,cur,q,q2,q3,q4,q5,q6,q7⟩
 · rw [q] at h1;cases h1
 · rw [q] at h1
   injection h1 with e1 e2 e3
   injection e1 with e1
   injection e1 with e1
   subst e1 e2
   exact ⟨g',cap,cur,inner,q,hmn g' (by rw [q];rfl),q3,q7,h4,h5,h2,by rw [h3,hz]⟩
theorem expl_rel : ∀ (t:Ty) (x:T t) {cs:List Value},Rd (Un U0 ν L) w t x cs→All2 (RelC U0 ν L w) (expl t x) cs
 | .int k,x,cs,h=>by
   obtain rfl:cs= [.int k x]:=h
   exact ⟨⟨rfl,rfl⟩,trivial⟩
 | .bool,x,cs,h=>by
   obtain rfl:cs= [.bool x]:=h
   exact ⟨⟨rfl,rfl⟩,trivial⟩
 | .str,x,cs,h=>by
   obtain rfl:cs= [.string x]:=h
   exact ⟨⟨rfl,rfl⟩,trivial⟩
 | .row e t,x,cs,h=>by
   obtain ⟨A,c,rfl,h1⟩:=h
   exact ⟨⟨rfl,A,c,rfl,h1⟩,trivial⟩
 | .cons p q,x,cs,h=>by
   obtain ⟨c0,c1,rfl,h1,h2⟩:=h
   exact (expl_rel p x.1 h1).app (expl_rel q x.2 h2)
theorem part_get : ∀ {t:Ty} {x:T t} {off sz:Nat} {t2:Ty} {y:T t2} {U:Nat→Prop} {cs:List Value},Rd U w t x cs→part t x off sz=some (.rel t2 y)→sz=t2.size→Rd U w t2 y ((cs.drop off).take sz)
 | .int k,x,off,sz,t2,y,U,cs,hr,h,hs=>by
   simp only [part] at h;split at h
   · rename_i q;injection h with h;cases h;have hr':=hr;obtain rfl:cs= [_]:=hr;rw [q.1,q.2];exact hr'
   · cases h
 | .bool,x,off,sz,t2,y,U,cs,hr,h,hs=>by
   simp only [part] at h;split at h
   · rename_i q;injection h with h;cases h;have hr':=hr;obtain rfl:cs= [_]:=hr;rw [q.1,q.2];exact hr'
   · cases h
 | .str,x,off,sz,t2,y,U,cs,hr,h,hs=>by
   simp only [part] at h;split at h
   · rename_i q;injection h with h;cases h;have hr':=hr;obtain rfl:cs= [_]:=hr;rw [q.1,q.2];exact hr'
   · cases h
 | .row e t,x,off,sz,t2,y,U,cs,hr,h,hs=>by
   simp only [part] at h;split at h
   · rename_i q;injection h with h;cases h;obtain ⟨A,c,rfl,hr⟩:=hr;rw [q.1,q.2];exact ⟨A,c,rfl,hr⟩
   · cases h
 | .cons p q,x,off,sz,t2,y,U,cs,hr,h,hs=>by
   simp only [part] at h
   split at h
   · rename_i e;injection h with h;cases h
     have hl:cs.length=(Ty.cons p q).size:=by rw [(kd (.cons p q)).K_len hr.K,kd_sz]
     rw [e.1,List.drop_zero,e.2,← hl,List.take_length]
     exact hr
   · obtain ⟨c0,c1,rfl,h1,h2⟩:=hr
     have hl:c0.length=p.size:=by rw [(kd p).K_len h1.K,kd_sz]
     split at h
     · rename_i hlt
       have:=part_get h1 h hs
       have hle:off+sz≤c0.length:=by
        have h3:=(kd t2).K_len this.K
        rw [kd_sz,← hs,List.length_take,List.length_drop] at h3
        omega
       rw [List.drop_append_of_le_length (by omega),List.take_append_of_le_length (by rw [List.length_drop];omega)]
       exact this
     · rename_i hge
       have:=part_get h2 h hs
       rw [List.drop_append,List.drop_eq_nil_of_le (by omega),List.nil_append,hl]
       exact this
theorem ok_load (hΘ:Θ.ok P=true) (I:Inv U0 ν tm hp w0 a w) {t:TypeId} {x:Operand} (ho:o.op= .load t x) (h:(stepT Θ S k tm hp o.dst (.load t x) K).run=some r):StepOk P Θ S k o U0 ν tm hp w0 a w K r:=by
 simp only [stepT] at h
 split at h
 · rename_i j off i hx hi
   obtain ⟨f,d,hf,hd,hs,_,_,ha,_⟩:=kind_of hΘ hi
   split at h
   · rename_i e cs hb
     split at h
     · rename_i hle
       obtain ⟨hj,g,hν,hv⟩:=val_one (hx▸I.opnd x)
       obtain ⟨g',vs,h1,h2,h3,h4,h5⟩:=I.cells hb
       rw [hν] at h1
       injection h1 with h1
       injection h1 with h1
       injection h1 with h1
       subst h1
       have hlen:=h4.len
       refine ⟨_,_,h,goes_value I (v:=mkV ((vs.drop off).take i.size)) ?_ ⟨_,rfl,(h4.drop off).take i.size⟩⟩
       have hr:=run_loadAt (P:=P) (w:=w) (ad:=⟨g,off,none⟩) (vs:=(vs.drop off).take i.size) hf hd hs ha (by rw [List.length_take,List.length_drop];omega) (fun q hq=>by
        rw [add_at,blk_cell h3,List.getElem?_take_of_lt hq,List.getElem?_drop]
        simp)
       simp only [execOp,ho,hv]
       simp [hr]
     · cases h
   · cases h
 · rename_i t' y i hx hi
   obtain ⟨f,d,hf,hd,hs,_,_,ha,_⟩:=kind_of hΘ hi
   split at h
   · rename_i hz
     obtain ⟨ad,cs,hv,hrd,hst⟩:=val_one (hx▸I.opnd x)
     have hlen:cs.length=i.size:=by rw [(kd t').K_len hrd.K,kd_sz,hz]
     refine ⟨_,_,h,goes_value I (v:=mkV cs) ?_ ⟨cs,rfl,expl_rel t' y hrd⟩⟩
     have hr:=run_loadAt (P:=P) (w:=w) (ad:=ad) (vs:=cs) hf hd hs ha hlen (fun q hq=>by
      have:=(hst q _ (List.getElem?_eq_getElem (show q<cs.length by omega))).now
      rw [this,List.getElem?_eq_getElem])
     simp only [execOp,ho,hv]
     simp [hr]
   · cases h
 · rename_i j q off sz i hx hi
   obtain ⟨f,d,hf,hd,hs,_,_,ha,_⟩:=kind_of hΘ hi
   split at h
   · rename_i e t' xs hb
     split at h
     · rename_i hz
       split at h
       · rename_i t2 y hp2
         split at h
         · rename_i hz2
           obtain ⟨g,cap,cur,inner,e1,e2,e3,e4,e5,e6,e7,hv⟩:=I.elt hb (val_one (hx▸I.opnd x)) hz
           have hg:(xs:List (T t'))[q.toNat]? =some ((xs:List (T t')).getD q.toNat (dflt t')):=by
            rw [List.getD_eq_getElem?_getD,List.getElem?_eq_getElem e7];rfl
           have hrd:=part_get (e6.2 _ _ hg) hp2 hz2
           have hlen:((((inner.drop (q.toNat*(kd t').sz)).take (kd t').sz).drop off).take i.size).length=i.size:=by
            have h0:=(kd t2).K_len hrd.K
            rw [h0,kd_sz t2,hz2]
           refine ⟨_,_,h,goes_value I (v:=mkV ((((inner.drop (q.toNat*(kd t').sz)).take (kd t').sz).drop off).take i.size)) ?_ ⟨_,rfl,expl_rel t2 y hrd⟩⟩
           have hr:=run_loadAt (P:=P) (w:=w) (ad:=⟨g,q.toNat*t'.size+off,none⟩) (vs:=(((inner.drop (q.toNat*(kd t').sz)).take (kd t').sz).drop off).take i.size) hf hd hs ha hlen (fun z hz=>by
            have h3:((((inner.drop (q.toNat*(kd t').sz)).take (kd t').sz).drop off).take i.size)[z]? ≠none:=by
             rw [List.getElem?_eq_getElem (by omega)];simp
            rw [add_at,blk_cell e3]
            rw [List.getElem?_take_of_lt hz,List.getElem?_drop] at h3 ⊢
            rw [List.getElem?_take] at h3 ⊢
            split at h3
            · rename_i h4
              rw [if_pos h4,List.getElem?_drop] at *
              rw [← e4,List.getElem?_take] at h3 ⊢
              split at h3
              · rename_i h5
                rw [if_pos h5,kd_sz]
                simp [Nat.add_assoc]
              · exact absurd rfl h3
            · exact absurd rfl h3)
           simp only [execOp,ho,hv]
           simp [hr]
         · cases h
       · cases h
     · cases h
   · cases h
 · cases h
end
end Go.Proofs.YtjocbnjpjihpnaaGreatW.Abs

end
section
namespace Go.Proofs.YtjocbnjpjihpnaaGreatW.Abs
open Go.RowKit Go.Proofs.YtjocbnjpjihpnaaGreatW.PrintWords Go.Proofs.YtjocbnjpjihpnaaGreatW.PrintLast Go.Proofs.YtjocbnjpjihpnaaGreatW.PrintMore
set_option linter.unusedVariables false
set_option linter.unusedSectionVars false

theorem idx_lt {i:Int} {n:Nat} (h0:0≤i) (h1:i<n):i.toNat<n∧0<n:=by omega
theorem add_add (a:Addr) (n m:Nat):(a.add n).add m=a.add (n+m):=by
 unfold Addr.add
 by_cases h:n=0
 · subst h;simp
 · by_cases k:m=0
   · subst k;simp
   · simp [h,k,Nat.add_assoc]
theorem part_rel {U0:Nat→Prop} {ν:Nat→Value} {L:Nat→Prop} {w:World} {ad:Addr} : ∀ {t:Ty} {x:T t} {off sz:Nat} {c:AC} {cs:List Value},Rd (Un U0 ν L) w t x cs→(∀ i u,cs[i]? =some u→Stab (Un U0 ν L) w (fun W=>W.cell? (ad.add i)=some u))→part t x off sz=some c→RelC U0 ν L w c (.pointer (some (ad.add off)))
 | .int k,x,off,sz,c,cs,hr,hc,h=>by
   simp only [part] at h;split at h
   · rename_i q;injection h with h;subst h;rw [q.1];exact ⟨_,cs,rfl,hr,fun i u hu=>by rw [add_add,Nat.zero_add];exact hc i u hu⟩
   · cases h
 | .bool,x,off,sz,c,cs,hr,hc,h=>by
   simp only [part] at h;split at h
   · rename_i q;injection h with h;subst h;rw [q.1];exact ⟨_,cs,rfl,hr,fun i u hu=>by rw [add_add,Nat.zero_add];exact hc i u hu⟩
   · cases h
 | .str,x,off,sz,c,cs,hr,hc,h=>by
   simp only [part] at h;split at h
   · rename_i q;injection h with h;subst h;rw [q.1];exact ⟨_,cs,rfl,hr,fun i u hu=>by rw [add_add,Nat.zero_add];exact hc i u hu⟩
   · cases h
 | .row e t,x,off,sz,c,cs,hr,hc,h=>by
   simp only [part] at h;split at h
   · rename_i q;injection h with h;subst h;rw [q.1];exact ⟨_,cs,rfl,hr,fun i u hu=>by rw [add_add,Nat.zero_add];exact hc i u hu⟩
   · cases h
 | .cons p q,x,off,sz,c,cs,hr,hc,h=>by
   simp only [part] at h
   split at h
   · rename_i e;injection h with h;subst h;rw [e.1];exact ⟨_,cs,rfl,hr,fun i u hu=>by rw [add_add,Nat.zero_add];exact hc i u hu⟩
   · obtain ⟨c0,c1,rfl,h1,h2⟩:=hr
     have hl:c0.length=p.size:=by rw [(kd p).K_len h1.K,kd_sz]
     split at h
     · exact part_rel h1 (fun i u hu=>hc i u (by rw [List.getElem?_append_left (List.getElem?_eq_some_iff.1 hu).1];exact hu)) h
     · have:=part_rel (ad:=ad.add p.size) h2 (fun i u hu=>by
        rw [add_add]
        refine hc _ u ?_
        rw [List.getElem?_append_right (by omega),← hu]
        congr 1;omega) h
       rw [add_add] at this
       rwa [show p.size+(off-p.size)=off by omega] at this
section
variable {P:Program} {Θ:Tab} {S:FuncId→Option FE} {k:Nat} {o:Oper} {U0:Nat→Prop} {ν:Nat→Value} {tm:List AV} {hp:List AB} {w0:St} {w:World} {a:Act} {R:Type} {K:AV→HC→Tree R} {r:R}
theorem run_fieldAt {s:TypeId} {fs:Array Field} {gs:List (Nat × Nat)} {f off sz:Nat} {ad:Addr} (hu:P.underlying s=some (.struct fs)) (hg:fs.toList.map (fun f=>(f.offset,((P.info? f.type).map (·.size)).getD 0))=gs) (hf:gs[f]? =some (off,sz)) (hz:sz≠0) :
 (Instr.fieldAt s (.pointer (some ad)) f).run P w= .ok (.pointer (some (ad.add off))) w:=by
 rw [← hg,List.getElem?_map] at hf
 cases hq:fs.toList[f]? with
 | none=>rw [hq] at hf;cases hf
 | some fl =>
   rw [hq] at hf
   simp only [Option.map_some] at hf
   injection hf with hf
   injection hf with h1 h2
   have hq':fs[f]? =some fl:=by rw [← hq];simp
   cases hi:P.info? fl.type with
   | none=>rw [hi] at h2;exact absurd h2.symm hz
   | some i =>
     rw [hi] at h2
     have h2:i.size=sz:=h2
     have hs:(sizeOf fl.type).run P w= .ok sz w:=by simp [sizeOf,typeInfo,hi,h2]
     unfold Instr.fieldAt Instr.sureAddr fieldPlace
     simp [run_underlying hu,hq',hs,hz,h1]
theorem ok_fieldAddr (hΘ:Θ.ok P=true) (I:Inv U0 ν tm hp w0 a w) {s:TypeId} {x:Operand} {f:Nat} (ho:o.op= .fieldAddr s x f) (h:(stepT Θ S k tm hp o.dst (.fieldAddr s x f) K).run=some r):StepOk P Θ S k o U0 ν tm hp w0 a w K r:=by
 simp only [stepT] at h
 split at h
 · rename_i j off i hx hi
   split at h
   · rename_i fs hk
     split at h
     · rename_i off' sz hf
       split at h
       · cases h
       · rename_i hz
         obtain ⟨_,d,_,hd,_,_,hB,_⟩:=kind_of hΘ hi
         rw [hk] at hB
         obtain ⟨fields,rfl,hg⟩:=kind_struct hB
         obtain ⟨hj,g,hν,hv⟩:=val_one (hx▸I.opnd x)
         refine ⟨_,_,h,goes_value I (v:= .pointer (some ⟨g,off+off',none⟩)) ?_ (of_one ⟨hj,g,hν,rfl⟩)⟩
         simp only [execOp,ho,hv]
         simp [run_fieldAt hd hg hf hz,add_at]
     · cases h
   · cases h
 · rename_i j q off z i hx hi
   split at h
   · rename_i fs hk
     split at h
     · rename_i off' sz hf
       split at h
       · cases h
       · rename_i hz
         obtain ⟨_,d,_,hd,_,_,hB,_⟩:=kind_of hΘ hi
         rw [hk] at hB
         obtain ⟨fields,rfl,hg⟩:=kind_struct hB
         obtain ⟨hj,g,n,c,h1,h2,hv⟩:=val_one (hx▸I.opnd x)
         refine ⟨_,_,h,goes_value I (v:= .pointer (some ⟨g,q.toNat*z+(off+off'),none⟩)) ?_ (of_one ⟨hj,g,n,c,h1,h2,rfl⟩)⟩
         simp only [execOp,ho,hv]
         simp [run_fieldAt hd hg hf hz,add_at,Nat.add_assoc]
     · cases h
   · cases h
 · rename_i t y i hx hi
   split at h
   · rename_i fs hk
     split at h
     · rename_i off' sz hf
       split at h
       · cases h
       · rename_i hz
         split at h
         · rename_i c hc
           obtain ⟨_,d,_,hd,_,_,hB,_⟩:=kind_of hΘ hi
           rw [hk] at hB
           obtain ⟨fields,rfl,hg⟩:=kind_struct hB
           obtain ⟨ad,cs,hv,h1,h2⟩:=val_one (hx▸I.opnd x)
           refine ⟨_,_,h,goes_value I (v:= .pointer (some (ad.add off'))) ?_ (of_one (part_rel h1 h2 hc))⟩
           simp only [execOp,ho,hv]
           simp [run_fieldAt hd hg hf hz]
         · cases h
     · cases h
   · cases h
 · cases h
theorem index_ok (hΘ:Θ.ok P=true) {t e:TypeId} {q z:TI} {d sz n:Nat} {i:Int} {kk:IntKind} {x y:Operand} {ad:Addr} {c:Nat} (ho:o.op= .indexAddr t x y) (hq:ti Θ t=some q) (hk:q.kind= .slice e) (hz:ti Θ e=some z) (hsz:z.size=sz) (hx:a.eval x= .slice (some ad) n c) (hy:a.eval y= .int kk i) (h0:0≤i) (h1:i<n) :
 (execOp a.eval o).run P w= .ok (.value (.pointer (some (ad.add (i.toNat*sz))))) w:=by
 obtain ⟨_,d,_,hd,_,_,hB,_⟩:=kind_of hΘ hq
 rw [hk] at hB
 rw [kind_slice hB] at hd
 obtain ⟨f',_,hf',_,hs',_⟩:=kind_of hΘ hz
 have hs:(sizeOf e).run P w= .ok sz w:=by simp [sizeOf,typeInfo,hf',hs',hsz]
 simp only [execOp,ho,hx,hy]
 have hc:(0:Int)≤i∧i<((n:Nat):Int):=⟨h0,h1⟩
 simp [Instr.indexAt,asIntOf,run_underlying hd,hs,hc]
theorem index_ro (hΘ:Θ.ok P=true) (I:Inv U0 ν tm hp w0 a w) {t:TypeId} {x y:Operand} (ho:o.op= .indexAddr t x y) {q z:TI} {e:TypeId} {t':Ty} {xs:List (T t')} {kk:IntKind} {i:Int} (hq:ti Θ t=some q) (hk:q.kind= .slice e) (hz:ti Θ e=some z) (hsz:z.size=t'.size) (hx : ∃ A c,a.eval x= .slice A (List.length xs) c∧Rd (Un U0 ν (lv hp)) w (.row e t') xs [a.eval x]) (hy:opnd tm y= .val [.ro (.int kk) i]) (h0:0≤i) (h1:i<(List.length xs:Int)) :
 Goes P o U0 ν tm hp w0 a w (.val [.rel t' ((xs:List (T t')).getD (i:Int).toNat (dflt t'))]) H0:=by
 have hi:=ro_int (hy▸I.opnd y)
 obtain ⟨A,c,hsl,hv⟩:=hx
 obtain ⟨A',c',hsl',hlc,hm,hrow⟩:=hv
 have hsl':=(List.cons.inj hsl').1
 have hi0:=idx_lt h0 h1
 obtain ⟨ad,rfl,hel⟩:=hrow hi0.2
 have hp0:(xs:List (T t'))[(i:Int).toNat]? =some ((xs:List (T t')).getD (i:Int).toNat (dflt t')):=by
  rw [List.getD_eq_getElem?_getD,List.getElem?_eq_getElem hi0.1];rfl
 obtain ⟨cs,q1,q2⟩:=hel _ _ hp0
 exact goes_value I (v:= .pointer (some (ad.add ((i:Int).toNat*t'.size)))) (index_ok (d:=0) hΘ ho hq hk hz hsz hsl' hi h0 h1) (of_one ⟨_,cs,rfl,q1,fun j u hu=>by rw [add_add];exact q2 j u hu⟩)
theorem index_arr (hΘ:Θ.ok P=true) {t e:TypeId} {q z:TI} {sz m:Nat} {i:Int} {kk:IntKind} {x y:Operand} {ad:Addr} (ho:o.op= .indexAddr t x y) (hq:ti Θ t=some q) (hk:q.kind= .arr m e) (hz:ti Θ e=some z) (hsz:z.size=sz) (hx:a.eval x= .pointer (some ad)) (hy:a.eval y= .int kk i) (h0:0≤i) (h1:i<m) :
 (execOp a.eval o).run P w= .ok (.value (.pointer (some (ad.add (i.toNat*sz))))) w:=by
 obtain ⟨_,d,_,hd,_,_,hB,_⟩:=kind_of hΘ hq
 rw [hk] at hB
 rw [kind_arr hB] at hd
 obtain ⟨f',_,hf',_,hs',_⟩:=kind_of hΘ hz
 have hs:(sizeOf e).run P w= .ok sz w:=by simp [sizeOf,typeInfo,hf',hs',hsz]
 simp only [execOp,ho,hx,hy]
 have hc:(0:Int)≤i∧i<((m:Nat):Int):=⟨h0,h1⟩
 simp [Instr.indexAt,Instr.sureAddr,asIntOf,run_underlying hd,hs,hc]
theorem ok_indexAddr (hΘ:Θ.ok P=true) (I:Inv U0 ν tm hp w0 a w) {t:TypeId} {x y:Operand} (ho:o.op= .indexAddr t x y) (h:(stepT Θ S k tm hp o.dst (.indexAddr t x y) K).run=some r):StepOk P Θ S k o U0 ν tm hp w0 a w K r:=by
 simp only [stepT] at h
 split at h
 · rename_i e t' xs kk i q hx hy hq
   split at h
   · rename_i e' hk
     split at h
     · rename_i z hz
       split at h
       · rename_i he
         obtain ⟨rfl,hsz⟩:=he
         obtain ⟨h0,h⟩:=Tree.need h
         obtain ⟨h1,h⟩:=Tree.need h
         have hv:=val_one (hx▸I.opnd x)
         obtain ⟨A,c,hsl,hr⟩:=hv.2
         exact ⟨_,_,h,index_ro hΘ I ho hq hk hz hsz ⟨A,c,(List.cons.inj hsl).1,A,c,hsl,hr⟩ hy h0 h1⟩
       · cases h
     · cases h
   · cases h
 · rename_i j kk i q hx hy hq
   split at h
   · rename_i m e' hk
     split at h
     · rename_i z hz
       split at h
       · rename_i e t' xs hb
         split at h
         · rename_i hsz
           obtain ⟨h0,h⟩:=Tree.need h
           obtain ⟨h1,h⟩:=Tree.need h
           obtain ⟨h2,h⟩:=Tree.need h
           obtain ⟨hj,g,n,c,hv,hv'⟩:=val_one (hx▸I.opnd x)
           have hi:=ro_int (hy▸I.opnd y)
           have hi0:=idx_lt h0 h2
           have hn:n=List.length xs:=by
            obtain ⟨⟨inner,h4,_⟩,_⟩:=I.mem j _ hb rfl
            rcases h4.2 with ⟨q1,_⟩ | ⟨g',cap,cur,q1,_⟩
            · rw [q1] at hv;cases hv
            · rw [q1] at hv;injection hv with _ hv _;exact hv.symm
           subst hn
           refine ⟨_,_,h,goes_value I (index_arr hΘ ho hq hk hz hsz hv' hi h0 h1) (of_one ⟨hj,g,_,c,hv,⟨h0,hi0.1⟩,by rw [add_at];simp⟩)⟩
         · cases h
       · cases h
     · cases h
   · cases h
 · rename_i j kk i q hx hy hq
   split at h
   · rename_i e' hk
     split at h
     · rename_i z hz
       split at h
       · rename_i e t' xs hb
         split at h
         · rename_i he
           obtain ⟨rfl,hsz⟩:=he
           obtain ⟨h0,h⟩:=Tree.need h
           obtain ⟨h1,h⟩:=Tree.need h
           obtain ⟨hj,hv⟩:=val_one (hx▸I.opnd x)
           have hi:=ro_int (hy▸I.opnd y)
           have hi0:=idx_lt h0 h1
           obtain ⟨⟨inner,h4,h5⟩,_⟩:=I.mem j _ hb rfl
           rcases h4.2 with ⟨q1,q2⟩ | ⟨g,cap,cur,q1,q2,q3,q4,q5,q6,q7⟩
           · have:0<List.length xs:=hi0.2
             omega
           · have hv':a.eval x= .slice (some ⟨g,0,none⟩) (List.length xs) cap:=by rw [hv,q1];rfl
             refine ⟨_,_,h,goes_value I (index_ok (d:=0) hΘ ho hq hk hz hsz hv' hi h0 h1) (of_one ⟨hj,g,_,cap,by rw [q1];rfl,⟨h0,hi0.1⟩,by rw [add_at];simp⟩)⟩
         · cases h
       · rename_i e t' xs hb
         split at h
         · rename_i he
           obtain ⟨rfl,hsz⟩:=he
           obtain ⟨h0,h⟩:=Tree.need h
           obtain ⟨h1,h⟩:=Tree.need h
           obtain ⟨hj,hv⟩:=val_one (hx▸I.opnd x)
           obtain ⟨v,e1,hr⟩:=I.mem j _ hb rfl
           have hv':a.eval x=v:=by rw [hv,e1];rfl
           subst hv'
           obtain ⟨A,c,hsl,hrr⟩:=hr
           exact ⟨_,_,h,index_ro hΘ I ho hq hk hz hsz ⟨A,c,(List.cons.inj hsl).1,A,c,hsl,hrr⟩ hy h0 h1⟩
         · cases h
       · cases h
     · cases h
   · cases h
 · cases h
theorem run_part {e:TypeId} {f:TypeInfo} {d:TypeDesc} {n off:Nat} {vs:List Value} (hf:P.info? e=some f) (hd:P.underlying e=some d) (hn:f.size=n) (ha:aggB d=(n !=1)) (hl:off+n≤vs.length):(Go.part e vs.toArray off).run P w= .ok (mkV ((vs.drop off).take n)) w:=by
 unfold Go.part
 simp only [Sem.run_bind,run_isAgg hd,Result.andThen_ok,ha]
 by_cases h1:n=1
 · subst h1
   have hlt:off<vs.length:=by omega
   have e1:(vs.drop off).take 1= [vs[off]]:=by
    rw [List.drop_eq_getElem_cons hlt];rfl
   simp [e1,mkV,hlt]
 · have hb:(n !=1)=true:=by simpa using h1
   have hs:(sizeOf e).run P w= .ok n w:=by simp [sizeOf,typeInfo,hf,hn]
   rw [mkV_ne (by rw [List.length_take,List.length_drop];omega)]
   simp [hb,hs]
theorem ok_index (hΘ:Θ.ok P=true) (I:Inv U0 ν tm hp w0 a w) {t:TypeId} {x y:Operand} (ho:o.op= .index t x y) (h:(stepT Θ S k tm hp o.dst (.index t x y) K).run=some r):StepOk P Θ S k o U0 ν tm hp w0 a w K r:=by
 simp only [stepT] at h
 split at h
 · rename_i q hq
   split at h
   · rename_i hk
     split at h
     · rename_i s kk i hx hy
       obtain ⟨h0,h⟩:=Tree.need h
       obtain ⟨h1,h⟩:=Tree.need h
       obtain ⟨_,d,_,hd,_,_,hB,_⟩:=kind_of hΘ hq
       rw [hk] at hB
       rw [kind_str hB] at hd
       have hv:=ro_str (hx▸I.opnd x)
       have hi:=ro_int (hy▸I.opnd y)
       have hl:(i:Int).toNat<(s:ByteArray).size:=(idx_lt h0 h1).1
       refine ⟨_,_,h,goes_value I (v:= .int .u8 (bt s i)) ?_ (rel_iv .u8 _)⟩
       have h0':(0:Int)≤i:=h0
       have hg:(s:ByteArray)[(i:Int).toNat]? =some ((s:ByteArray)[(i:Int).toNat]'hl):=by simp [hl]
       simp only [execOp,ho,hv,hi]
       simp [Instr.index,asIntOf,run_underlying hd,h0',bt,hl]
     · cases h
   · rename_i n e hk
     split at h
     · rename_i cs kk i z hx hy hz
       split at h
       · rename_i hc
         obtain ⟨h0,h⟩:=Tree.need h
         obtain ⟨h1,h⟩:=Tree.need h
         obtain ⟨_,d,_,hd,_,_,hB,_⟩:=kind_of hΘ hq
         rw [hk] at hB
         rw [kind_arr hB] at hd
         obtain ⟨f',d',hf',hd',hs',_,_,ha',_⟩:=kind_of hΘ hz
         obtain ⟨vs,e1,e2⟩:=(hx▸I.opnd x:RelV U0 ν (lv hp) w (.val cs) (a.eval x))
         have hlen:=e2.len
         have hv:a.eval x= .agg vs.toArray:=by rw [e1];exact mkV_ne (by omega)
         have hi:=ro_int (hy▸I.opnd y)
         have hi0:=idx_lt h0 h1
         have hfit:(i:Int).toNat*z.size+z.size≤vs.length:=by
          rw [← hlen,hc.1,← Nat.succ_mul]
          exact Nat.mul_le_mul_right _ hi0.1
         refine ⟨_,_,h,goes_value I (v:=mkV ((vs.drop ((i:Int).toNat*z.size)).take z.size)) ?_ ⟨_,rfl,(e2.drop _).take _⟩⟩
         have hp:=run_part (P:=P) (w:=w) (vs:=vs) hf' hd' hs' ha' hfit
         have hs:(sizeOf e).run P w= .ok z.size w:=by simp [sizeOf,typeInfo,hf',hs']
         have hcond:(0:Int)≤i∧(i:Int)<((n:Nat):Int):=⟨h0,h1⟩
         simp only [execOp,ho,hv,hi]
         simp [Instr.index,asIntOf,run_underlying hd,hs,hcond,hp]
       · cases h
     · cases h
   · cases h
 · cases h
end
end Go.Proofs.YtjocbnjpjihpnaaGreatW.Abs

end
section
namespace Go.Proofs.YtjocbnjpjihpnaaGreatW.Abs
open Go.RowKit Go.Proofs.YtjocbnjpjihpnaaGreatW.PrintWords Go.Proofs.YtjocbnjpjihpnaaGreatW.PrintLast Go.Proofs.YtjocbnjpjihpnaaGreatW.PrintMore
set_option linter.unusedVariables false
set_option linter.unusedSectionVars false

theorem mkV_cells {vs:List Value} (h : ∀ v∈vs,v.oneCell'=true):(mkV vs).cells=vs.toArray:=by
 unfold mkV
 split
 · rename_i x
   have:=h x List.mem_cons_self
   cases x<;>first | rfl | simp [Value.oneCell'] at this
 · rfl
section
variable {P:Program} {Θ:Tab} {S:FuncId→Option FE} {k:Nat} {o:Oper} {U0:Nat→Prop} {ν:Nat→Value} {tm:List AV} {hp hp':List AB} {w0:St} {w:World} {a:Act} {R:Type} {K:AV→HC→Tree R} {r:R}
theorem RelV.cells (I:Inv U0 ν tm hp w0 a w) {cs:List AC} {v:Value} (h:RelV U0 ν (lv hp) w (.val cs) v) : ∃ vs,v=mkV vs∧v.cells=vs.toArray∧All2 (RelC U0 ν (lv hp) w) cs vs∧ ∀ u∈vs,u.oneCell'=true:=by
 obtain ⟨vs,rfl,h2⟩:=h
 have h1 : ∀ u∈vs,u.oneCell'=true:=fun u hu=>by
  obtain ⟨c,_,hr⟩:=h2.mem u hu
  exact hr.one I.ones
 exact ⟨vs,rfl,mkV_cells h1,h2,h1⟩
theorem lv_new {t:Tmp} {b:AB} {l:List (Nat × AB)} (h:hok (some t) hp ⟨some b,l⟩=true):hp[t]? =some .gone∧isGone b=false∧True:=by
 unfold hok at h
 simp only [Bool.and_eq_true,Bool.not_eq_true',List.all_eq_true] at h
 obtain ⟨⟨h1,h2⟩,h3⟩:=h
 refine ⟨?_,h2,trivial⟩
 split at h1
 · assumption
 · cases h1
theorem lv_set_new {hp:List AB} {t:Nat} {b:AB} (h:hp[t]? =some .gone) (hb:isGone b=false):(∀ j,lv (hp.set t b) j↔lv hp j∨j=t)∧ ¬ lv hp t:=by
 have hlt:=(List.getElem?_eq_some_iff.1 h).1
 refine ⟨fun j=> ?_,fun ⟨b',q1,q2⟩=>by rw [h] at q1;injection q1 with q1;subst q1;cases q2⟩
 unfold lv
 by_cases hj:t=j
 · subst hj
   exact ⟨fun _=> .inr rfl,fun _=>⟨b,by simp [hlt],hb⟩⟩
 · rw [List.getElem?_set_ne hj]
   exact ⟨.inl,fun q=>q.resolve_right fun z=>hj z.symm⟩
theorem Inv.new (I:Inv U0 ν tm hp w0 a w) (hU : ∀ q,U0 q→q<w0.heap.size) {t:Tmp} {b:AB} {u v:Value} {x:AV} {w':World} (hg:hp[t]? =some .gone) (hb:isGone b=false)
 (hs:w.heap.size≤w'.heap.size) (hk : ∀ k,k<w.heap.size→w'.heap[k]? =w.heap[k]?) (hu : ∀ k,blk u=some k→w.heap.size≤k)
 (hF:Since w0 w') (hB:Move (Un U0 ν (lv hp)) w w' (Un U0 (upd ν t u) (lv (hp.set t b)))→(∀ j,lv hp j→lv (hp.set t b) j∧Kp ν (upd ν t u) j)→RelB U0 (upd ν t u) (lv (hp.set t b)) w0 w' t b∧RelV U0 (upd ν t u) (lv (hp.set t b)) w' x v) (d:Option Tmp) :
 Inv U0 (upd ν t u) (putT tm d x) (hp.set t b) w0 (a.put d v) w':=by
 have hlt:=(List.getElem?_eq_some_iff.1 hg).1
 obtain ⟨hlv,hnt⟩:=lv_set_new hg hb
 have hne : ∀ j,lv hp j→j≠t:=fun j hj q=>hnt (q▸hj)
 have hL : ∀ j,lv hp j→lv (hp.set t b) j∧Kp ν (upd ν t u) j:=fun j hj=>⟨(hlv j).2 (.inl hj), .inl (upd_ne (hne j hj))⟩
 have m:Move (Un U0 ν (lv hp)) w w' (Un U0 (upd ν t u) (lv (hp.set t b))):=by
  refine ⟨hs,fun q hq _=>hk q hq,fun q hq hun=> ?_⟩
  rcases hun with hun | ⟨j,hj,hbj⟩
  · exact .inl hun
  · rcases (hlv j).1 hj with hj | hj
    · rw [upd_ne (hne j hj)] at hbj;exact .inr ⟨j,hj,hbj⟩
    · subst hj
      rw [upd_self] at hbj
      have:=hu q hbj
      omega
 obtain ⟨hBt,hx⟩:=hB m hL
 refine I.put d x v m hL hx (fun j b' h1 h2=> ?_) (fun i j hij hi hj q h1 h2=> ?_) hF (I.fx.upd_ fun j b' h1 h2=> ?_)
 · by_cases hjt:t=j
   · subst hjt
     rw [List.getElem?_set_self hlt] at h1
     injection h1 with h1
     subst h1
     exact hBt
   · rw [List.getElem?_set_ne hjt] at h1
     exact (I.mem j b' h1 h2).move m hL (upd_ne fun z=>hjt z.symm) (fun q hq=>hk q (I.lt ⟨b',h1,h2⟩ hq).1)
 · rcases (hlv i).1 hi with hi' | hi'
   · rw [upd_ne (hne i hi')] at h1
     rcases (hlv j).1 hj with hj' | hj'
     · rw [upd_ne (hne j hj')] at h2
       exact I.dis i j hij hi' hj' q h1 h2
     · subst hj'
       rw [upd_self] at h2
       have:=(I.lt hi' h1).1
       have:=hu q h2
       omega
   · subst hi'
     rw [upd_self] at h1
     have:=hu q h1
     rcases (hlv j).1 hj with hj' | hj'
     · rw [upd_ne (hne j hj')] at h2
       have:=(I.lt hj' h2).1
       omega
     · exact hij hj'.symm
 · have hne:j≠t:=by
    rintro rfl
    rw [hg] at h1
    injection h1 with h1
    subst h1
    cases h2
   exact ⟨upd_ne hne,b',by rw [List.getElem?_set_ne (Ne.symm hne)];exact h1,h2⟩
theorem Since.alloc {s:St} {w:World} (h:Since s w) (o:Obj):Since s (w.alloc o):=h.step ((Below.refl _ w).alloc (Nat.le_refl _) _)
theorem goes_new (I:Inv U0 ν tm hp w0 a w) (hU : ∀ q,U0 q→q<w0.heap.size) {t:Tmp} (hd:o.dst=some t) {e:TypeId} {cs:List AC} {vs:List Value} (hcs:All2 (RelC U0 ν (lv hp) w) cs vs)
 (hrun:(execOp a.eval o).run P w= .ok (.value (.pointer (some ⟨w.heap.size,0,none⟩))) (w.alloc (.cells vs.toArray e (0,0)))):Goes P o U0 ν tm hp w0 a w (.val [.ptr t 0]) ⟨some (.cells .mine e cs),[]⟩:=by
 intro hh next Q h
 unfold Oper.wp
 rw [hrun]
 rw [hd] at hh h
 show next (a.put o.dst _) _
 rw [hd]
 obtain ⟨hg,hb,_⟩:=lv_new hh
 refine h (upd ν t (.pointer (some ⟨w.heap.size,0,none⟩))) _ _ (I.new hU hg hb (by simp) (fun q hq=>Below.heap_alloc _ _ _ hq) (fun k hk=> ?_) (I.fr.alloc _) (fun m hL=> ?_) _)
 · injection hk with hk
   have hk:w.heap.size=k:=hk
   omega
 · refine ⟨⟨w.heap.size,vs,upd_self,Mine.new I.fr.size,heap_alloc_new w _,hcs.imp fun _ _ h=>RelC.move m hL h⟩,of_one (c:= .ptr t 0) (show RelC _ _ _ _ (.ptr t 0) _ from ⟨((lv_set_new hg hb).1 t).2 (.inr rfl),_,upd_self,rfl⟩)⟩
theorem ok_allocC (hΘ:Θ.ok P=true) (I:Inv U0 ν tm hp w0 a w) (hU : ∀ q,U0 q→q<w0.heap.size) {e:TypeId} (ho:o.op= .alloc e) {i:TI} {t:Tmp} (hi:ti Θ e=some i) (hd:o.dst=some t) (h:(K (.val [.ptr t 0]) ⟨some (.cells .mine e i.zero),[]⟩).run=some r):StepOk P Θ S k o U0 ν tm hp w0 a w K r:=by
 obtain ⟨f,d,hf,_,_,_,_,_,_,z,hz,hzc⟩:=kind_of hΘ hi
 have hr:All2 (RelC U0 ν (lv hp) w) i.zero z:=zcs_rel hzc
 have h4 : ∀ u∈z,u.oneCell'=true:=fun u hu=>by
  obtain ⟨c,_,hr⟩:=hr.mem u hu
  exact hr.one I.ones
 refine ⟨_,_,h,goes_new I hU hd hr ?_⟩
 have hzv:(zeroValue e).run P w= .ok (mkV z) w:=by simp [zeroValue,typeInfo,hf,hz]
 simp only [execOp,ho]
 simp [Instr.alloc,hzv,newVar,newRow,mkV_cells h4]
end
end Go.Proofs.YtjocbnjpjihpnaaGreatW.Abs

end
