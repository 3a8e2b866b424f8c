/- Any argument of numbers, truths, texts, structs and rows of these, laid open. -/
import Derived.Test.YtjocbnjpjihpnaaGreatFbase
import Derived.WalkKit
import Derived.ProofKit
import Derived.OpenShut
import Derived.ShutString
import Derived.ChangeOld
import Derived.Below
import Derived.ChangeSame
import Derived.ChangeSlices
import Derived.WideShapes
import Derived.SizedLaws
import Derived.Test.YtjocbnjpjihpnaaGreatWWc
namespace Go.Proofs.YtjocbnjpjihpnaaGreat.RG
open Go.ChangeShapes Go.WideShapes Go.ChangeAt Go.RowKit Go.Proofs.YtjocbnjpjihpnaaGreatW.Gb
set_option linter.unusedVariables false
/-- The program's type has this shape. -/
def flB (P:Program) (B:Ty->TypeId->Bool):Ty->List Field->Nat->Bool
 | t,[f],off=>f.offset==off&&P.cellsOf f.type==t.size&&B t f.type
 | .cons a b,f::rest,off=>f.offset==off&&P.cellsOf f.type==a.size&&B a f.type&&flB P B b rest (off+a.size)
 | _,_,_=>false
def shB (P:Program):Nat->Ty->TypeId->Bool
 | 0,_,_=>false
 | n+1,t,u=>match P.underlying u with
   | some (.int k)=>decide (t= .int k)
   | some .bool=>decide (t= .bool)
   | some .string=>decide (t= .str)
   | some (.slice e)=>match t with
     | .row e' t'=>e==e'&&P.cellsOf e==t'.size&&shB P n t' e
     | _=>false
   | some (.struct fs)=>flB P (shB P n) t fs.toList 0&&P.cellsOf u==t.size
   | _=>false
/-- Numbers are in their kinds,rows not too long. -/
def Wf:(t:Ty)->T t->Prop
 | .int k,x=>(Lit.int k x).wf=true
 | .bool,_=>True
 | .str,x=>(x:ByteArray).size<=maxLen
 | .row _ t,xs=>List.length xs<=maxLen/\ ∀y∈(xs:List (T t)),Wf t y
 | .cons a b,x=>Wf a x.1/\Wf b x.2
theorem ue {α:Type} {Q:Nat->α->Prop} : ∀n:Nat,(∀i,i<n-> ∃y,Q i y)-> ∃ys:List α,ys.length=n/\ ∀i y,ys[i]? =some y->Q i y
 | 0,_=>⟨[],rfl,λi y h=>by simp at h⟩
 | n+1,h=>by
   obtain⟨ys,l,q⟩:=ue n (λi hi=>h i (by omega));obtain⟨y,hy⟩:=h n (by omega);refine⟨ys++ [y],by simp[l],λi z hz=> ?_⟩;rcases ANs i ys.length with k | k
   · rw[AN8 k] at hz;exact q i z hz
   · rw[AOG k] at hz
     have:i-ys.length=0:=by
      rcases APJ (i-ys.length) with e | e
      · exact e
      · rw[ANq (by simp;omega)] at hz;cases hz
     rw[this] at hz;obtain rfl:y=z:=by simpa using hz
     rw[show i=n by omega];exact hy
section
variable {H:Type} {enc:TypeId × Value->H} {P:Program} {W:World} {base:Nat} {spare:Nat->Bool} {held:Bool}
def ADj (enc:TypeId × Value->H) (P:Program) (W:World) (base:Nat) (spare:Nat->Bool) (held:Bool) (t:Ty) (u:TypeId):Prop:= ∀(fuel:Nat) (cs:List Value) (x:DataW H × List MemPlace),DataW.trod enc P W base spare held fuel u cs=some x-> ∃y:T t,Rd (λ_=>False) W t y cs/\Wf t y/\cs.length=t.size
theorem AAA (a:Addr) (i j:Nat):(a.add i).add j=a.add (i+j):=by
 unfold Addr.add;split<;>split<;>split<;>first | rfl | omega | (simp_all;done) | (simp_all;omega)
theorem wW {a:Addr} {u:Value} (h:W.cell? a=some u):WO (λ_=>False) W (λV=>V.cell? a=some u):=λV hs hb=>by
 have hlt:=World.block_lt_of_cell? W _ h;show V.cell? a=some u;rw[<-h];unfold World.cell?;rw[hb _ hlt (λq=>q)]
theorem ACZ {B:Ty->TypeId->Bool} (hB : ∀t u,B t u=true->ADj enc P W base spare held t u) : ∀(t:Ty) (l:List Field) (off:Nat) (cs:List Value) (n:Nat),flB P B t l off=true->cs.length=off+t.size ->
 (∀f∈l,∃y,DataW.trod enc P W base spare held n f.type ((cs.drop f.offset).take (P.cellsOf f.type))=some y)-> ∃y:T t,Rd (λ_=>False) W t y (cs.drop off)/\Wf t y:=by
 intro t l;induction l generalizing t with
 | nil=>intro off cs n h;cases t<;>cases h
 | cons f rest ih =>
   intro off cs n h hl hf;cases rest with
   | nil =>
     have h:(f.offset==off&&P.cellsOf f.type==t.size&&B t f.type)=true:=by
      cases t<;>exact h
     simp only[ANQ,beq_iff_eq] at h;obtain⟨⟨h1,h2⟩,h3⟩:=h;obtain⟨y,hy⟩:=hf f ANH;obtain⟨z,q1,q2,q3⟩:=hB t f.type h3 _ _ _ hy;rw[h1,h2,ANW (by simp;omega)] at q1;exact⟨z,q1,q2⟩
   | cons g rest =>
     cases t with
     | cons a b =>
       have h:(f.offset==off&&P.cellsOf f.type==a.size&&B a f.type&&flB P B b (g::rest) (off+a.size))=true:=h;simp only[ANQ,beq_iff_eq] at h;obtain⟨⟨⟨h1,h2⟩,h3⟩,h4⟩:=h;obtain⟨y,hy⟩:=hf f ANH;obtain⟨z,q1,q2,q3⟩:=hB a f.type h3 _ _ _ hy;have hsz:cs.length=off+(a.size+b.size):=hl;obtain⟨z2,p1,p2⟩:=ih b (off+a.size) cs n h4 (by omega) (λf' hf'=>hf f' (ANG _ hf'));rw[h1,h2] at q1;refine⟨(z,z2),⟨_,_, ?_,q1,p1⟩,q2,p2⟩;rw[<-APr,AOm]
     | _=>cases h
theorem opens : ∀(n:Nat) (t:Ty) (u:TypeId),shB P n t u=true->ADj enc P W base spare held t u
 | 0,_,_,h=>by cases h
 | n+1,t,u,h=>by
   intro fuel cs x hx;unfold shB at h;split at h
   · rename_i k hu
     obtain rfl:=of_decide_eq_true h;obtain⟨m,rfl,_,hw⟩:=DataW.trod_int hu hx;exact⟨m,rfl,hw,rfl⟩
   · rename_i hu
     obtain rfl:=of_decide_eq_true h;obtain⟨m,rfl,_⟩:=DataW.trod_bool hu hx;exact⟨m,rfl,trivial,rfl⟩
   · rename_i hu
     obtain rfl:=of_decide_eq_true h;obtain⟨m,rfl,_,hw⟩:=DataW.trod_string hu hx;exact⟨m,rfl,hw,rfl⟩
   · rename_i e hu
     split at h
     · rename_i e' t'
       simp only[ANQ,beq_iff_eq] at h;obtain⟨⟨rfl,hc⟩,hs⟩:=h;rcases DataW.trod_slice hu hx with⟨rfl,_⟩ | ⟨a,len,cap,elems,rest,m,_,rfl,_,_,hl,hm,hlen,hel,_,_⟩
       · exact⟨[],⟨none,0,rfl,ANS _,APm _,λq=>absurd q (AP6 0)⟩,⟨APm _,λy hy=>by cases hy⟩,rfl⟩
       · have each : ∀i,i<len-> ∃y:T t',Wf t' y/\ ∃c',Rd (λ_=>False) W t' y c'/\ ∀(i':Nat) (v:Value),c'[i']? =some v->WO (λ_=>False) W (λV=>V.cell? (a.add (i*t'.size+i'))=some v):=by
          intro i hi;have h1:=hel i hi;rw[ANX (by omega),hc] at h1;obtain⟨cs',h2,h3⟩:=AOn.1 h1;obtain⟨_,h4,h5⟩:=World.cells?_some h2;obtain⟨y,q1,q2,q3⟩:=opens n t' e hs _ _ _ h3;refine⟨y,q2,cs',q1,λi' v hv=>wW ?_⟩;have:=h5 i' (by have:=(ANN.1 hv).1;omega);rw[hv] at this;rw[AAA] at this;exact this
         obtain⟨ys,hy1,hy2⟩:=ue len each;have h64:maxLen<=9223372036854775807:=(by decide);refine⟨ys,⟨some a,cap,by rw[hy1],by rw[hy1];exact hl,by rw[hy1];omega,λ_=>⟨a,rfl,λj p hp=>(hy2 j p hp).2⟩⟩,⟨by rw[hy1];omega,λy hy=> ?_⟩,rfl⟩;obtain⟨i,hi⟩:=List.getElem?_of_mem hy;exact(hy2 i y hi).1
     · cases h
   · rename_i fs hu
     simp only[ANQ,beq_iff_eq] at h;obtain⟨xs,m,_,_,hl,hxs,hf⟩:=DataW.trod_struct hu hx;rw[h.2] at hl;obtain⟨y,q1,q2⟩:=ACZ (λt u hb=>opens n t u hb) t fs.toList 0 cs m h.1 (by omega) (λf hf'=>by
      obtain⟨i,hi⟩:=List.getElem?_of_mem hf';have hi:fs[i]? =some f:=(by simpa using hi);have h1:=hf i f hi;have hlt:=(AOF.1 hi).1;exact⟨xs[i]'(by omega),h1.trans (ANX (by omega))⟩)
     exact⟨y,by simpa using q1,q2,hl⟩
   · cases h
def Ye (P:Program) (t:Ty) (u:TypeId):Bool:=match P.underlying u with
 | some (.struct _)=>t.size !=1
 | _=>true
/-- An argument of any such type. -/
theorem ZR {n:Nat} {t:Ty} {u:TypeId} {v:Value} {r:Reach} {b0:Nat} {d:DataW H} {ps:List MemPlace} (hs:shB P n t u=true) (ha:Ye P t u=true) (ho:Value.okWide P W r b0 u v) (h:DataW.Trod enc P W base spare held u v d ps) :
 ∃x:T t,(∃cs,v=Ny cs/\Rd (λ_=>False) W t x cs)/\Wf t x:=by
 obtain⟨fuel,hf⟩:=h;obtain⟨y,q1,q2,q3⟩:=opens n t u hs fuel v.cells.toList _ hf;refine⟨y,⟨v.cells.toList, ?_,q1⟩,q2⟩;cases n with
 | zero=>cases hs
 | succ n =>
   unfold shB at hs;unfold Ye at ha;split at hs
   · rename_i k hu
     obtain⟨m,rfl⟩:=okWide_int hu ho;rfl
   · rename_i hu
     obtain⟨m,rfl⟩:=okWide_bool hu ho;rfl
   · rename_i hu
     obtain⟨m,rfl⟩:=okWide_string hu ho;rfl
   · rename_i e hu
     obtain⟨a,l,c,rfl⟩:=okWide_slice hu ho;rfl
   · rename_i fs hu
     obtain⟨cs,rfl,hc⟩:=okWide_struct hu ho;rw[hu] at ha;have h1:cs.toList.length≠1:=by
      have:cs.toList.length=t.size:=(by simpa[Value.cells] using q3);rw[this];simpa using ha
     show Value.agg cs=Ny cs.toList;obtain⟨l⟩:=cs
     match l,h1 with
     | [],_=>rfl
     | [_],h=>exact absurd rfl h
     | _::_::_,_=>rfl
   · cases hs
end
end Go.Proofs.YtjocbnjpjihpnaaGreat.RG
