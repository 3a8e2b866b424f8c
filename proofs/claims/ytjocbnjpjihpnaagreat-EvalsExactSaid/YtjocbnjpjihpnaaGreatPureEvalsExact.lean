/- The values of all instructions, or the first error: by the program as by the reference, for every program, inputs and values of forms. -/
import Derived.Test.YtjocbnjpjihpnaaGreatFgradinelaw16same
import Derived.Test.YtjocbnjpjihpnaaGreatCCb
import Derived.Test.YtjocbnjpjihpnaaGreatFgradinelaw16EvalsExact
namespace Go.Proofs.YtjocbnjpjihpnaaGreat.Pure
open Go.RowKit Go.Proofs.YtjocbnjpjihpnaaGreat.P Go.Proofs.YtjocbnjpjihpnaaGreat.M Go.Proofs.YtjocbnjpjihpnaaGreatW.PrintWords Go.Proofs.YtjocbnjpjihpnaaGreatW.PrintLast Go.Proofs.YtjocbnjpjihpnaaGreatW.PrintMore Go.Proofs.YtjocbnjpjihpnaaGreatW.Abs
set_option linter.unusedVariables false

def EvalsExactS:Prop:= ∀ (x0:T RG.tProg) (x1:T RG.tRats) (x2:T RG.tRats),RG.Wf RG.tProg x0→RG.Wf RG.tRats x1→RG.Wf RG.tRats x2→ ∃ k,gradinelaw16_EvalsExact.f k x0 x1 x2=some true
theorem EvalsExact:EvalsExactS:=by
 intro l inn forms h0 h1 h2
 obtain ⟨l0,w0⟩:=wf_prog h0
 obtain ⟨l1,w1⟩:=wf_rats h1
 obtain ⟨l2,w2⟩:=wf_rats h2
 clear h0 h1 h2
 refine Ev.rounds ?_
 have out:Ev (fun k=>(gradinelaw16_same.f k).bind fun t=>some t) true:=Ev.bind law16_same_c (Ev.same rfl)
 have l0:List.length l≤9223372036854775807:=by unfold maxLen at l0;omega
 obtain ⟨r,hr,g⟩:=Few_c (l:=l) (inn:=inn) (forms:=forms) l0 w0 w1 w2
 refine Ev.bind hr ?_
 cases r
 · exact Ev.ifn (by decide) out
 refine Ev.ifp rfl ?_
 obtain ⟨g1,g2,g3,g4,g5,g6⟩:=g rfl
 rcases Exact_both g1 g4 (by omega) (by omega) g5 g6 with ⟨e1,e2⟩ | ⟨f1,f2,f3,e1,e2⟩
 · refine Ev.bind e1 (Ev.bind e2 (Ev.ifp rfl (Ev.ifp rfl (Ev.bind (ref16_Same_c (by simp) (fun x hx=>absurd hx (by simp))) (Ev.ifp rfl out)))))
 · have hv:BdL 4096 (exS l (inn.map de) (forms.map de)).1:=exl_Bd l 0 [] 0 (BdL_nil _)
   have hln:=(exl_len (inn:=inn.map de) (forms:=forms.map de) l 0 [] 0).2
   refine Ev.bind e1 (Ev.bind e2 (Ev.ifp rfl (Ev.ifp rfl (Ev.bind (ref16_Same_c ?_ ?_) (Ev.ifp rfl out)))))
   · show ((exS l (inn.map de) (forms.map de)).1.map en).length≤_
     rw [List.length_map]
     change (exS l (inn.map de) (forms.map de)).1.length≤_ at hln
     simp only [List.length_nil] at hln
     omega
   · intro x hx
     obtain ⟨y,hy,rfl⟩:=List.mem_map.1 hx
     have:=en_len (hv y hy) (by omega)
     omega
end Go.Proofs.YtjocbnjpjihpnaaGreat.Pure
