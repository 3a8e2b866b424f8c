/- Values and tangents of all instructions, or the first error: by the program as by the reference. -/
import Derived.Test.YtjocbnjpjihpnaaGreatFgradinelaw17same
import Derived.Test.YtjocbnjpjihpnaaGreatBB
import Derived.Test.YtjocbnjpjihpnaaGreatCCb
import Derived.Test.YtjocbnjpjihpnaaGreatFgradinelaw17TangentTells
namespace Go.Proofs.YtjocbnjpjihpnaaGreat.Pure
open Go.RowKit Go.Proofs.YtjocbnjpjihpnaaGreat.P Go.Proofs.YtjocbnjpjihpnaaGreat.M Go.Proofs.YtjocbnjpjihpnaaGreatW.PrintWords Go.Proofs.YtjocbnjpjihpnaaGreatW.PrintLast Go.Proofs.YtjocbnjpjihpnaaGreatW.PrintMore Go.Proofs.YtjocbnjpjihpnaaGreatW.Abs
set_option linter.unusedVariables false

def TangentTellsS:Prop:= ∀ (x0:T RG.tCase),RG.Wf RG.tCase x0→ ∃ k,gradinelaw17_TangentTells.f k x0.1 x0.2.1 x0.2.2.1 x0.2.2.2=some true
theorem TangentTells:TangentTellsS:=by
 rintro ⟨l,inn,dirs,forms⟩ ⟨h0,h1,h2,h3⟩
 obtain ⟨l0,w0⟩:=wf_prog h0
 obtain ⟨l1,w1⟩:=wf_rats h1
 obtain ⟨l2,w2⟩:=wf_rats h2
 obtain ⟨l3,w3⟩:=wf_rats h3
 clear h0 h1 h2 h3
 dsimp only at *
 refine Ev.rounds ?_
 have out:Ev (fun k=>(gradinelaw17_same.f k).bind fun t=>some t) true:=Ev.bind law17_same_c (Ev.same rfl)
 have l0:List.length l≤9223372036854775807:=by unfold maxLen at l0;omega
 obtain ⟨r,hr,g⟩:=few_c (l:=l) (inn:=inn) (dirs:=dirs) (forms:=forms) l0 w0 w1 w2 w3
 refine Ev.bind hr ?_
 cases r
 · exact Ev.ifn (by decide) out
 refine Ev.ifp rfl ?_
 obtain ⟨g1,g2,g3,g4,g5,g6,g7,g8⟩:=g rfl
 rcases Of_both g1 g5 (by omega) (by omega) (by omega) g6 (dirs_ok g7) g8 with ⟨e1,e2⟩ | ⟨f1,f2,f3,f4,f5,e1,e2⟩
 · have nn:Ev (fun k=>gradineref16_Same.f k [] []) true:=ref16_Same_c (by simp) (fun x hx=>absurd hx (by simp))
   exact Ev.bind e1 (Ev.bind e2 (Ev.ifp rfl (Ev.ifp rfl (Ev.bind nn (Ev.ifp rfl (Ev.bind nn (Ev.ifp rfl out)))))))
 · obtain ⟨t1,t2,t3,t4⟩:=tOf_lists l (inn.map de) (dirs.map de) (forms.map de)
   exact Ev.bind e1 (Ev.bind e2 (Ev.ifp rfl (Ev.ifp rfl (Ev.bind (same_vals t1 (by omega)) (Ev.ifp rfl (Ev.bind (same_vals t2 (by omega)) (Ev.ifp rfl out)))))))
end Go.Proofs.YtjocbnjpjihpnaaGreat.Pure
