/- The doubles of all instructions, or the first error: by the program as by the reference, bit by bit. -/
import Derived.Test.YtjocbnjpjihpnaaGreatFgradinelaw16same
import Derived.Test.YtjocbnjpjihpnaaGreatCCb
import Derived.Test.YtjocbnjpjihpnaaGreatFgradinelaw16EvalsFloat
namespace Go.Proofs.YtjocbnjpjihpnaaGreat.Pure
open Go.RowKit Go.Proofs.YtjocbnjpjihpnaaGreat.P Go.Proofs.YtjocbnjpjihpnaaGreat.M Go.Proofs.YtjocbnjpjihpnaaGreatW.PrintWords Go.Proofs.YtjocbnjpjihpnaaGreatW.PrintLast Go.Proofs.YtjocbnjpjihpnaaGreatW.PrintMore Go.Proofs.YtjocbnjpjihpnaaGreatW.Abs
set_option linter.unusedVariables false

def EvalsFloatS:Prop:= ∀ (x0:T RG.tProg) (x1:T RG.tWords),RG.Wf RG.tProg x0→RG.Wf RG.tWords x1→ ∃ k,gradinelaw16_EvalsFloat.f k x0 x1=some true
theorem EvalsFloat:EvalsFloatS:=by
 intro l inn h0 h1
 obtain ⟨l0,w0⟩:=wf_prog h0
 obtain ⟨l1,w1⟩:=wf_words h1
 clear h0 h1
 obtain ⟨sq,hq⟩:=SqOk_ex
 refine Ev.rounds ?_
 have out:Ev (fun k=>(gradinelaw16_same.f k).bind fun t=>some t) true:=Ev.bind law16_same_c (Ev.same rfl)
 have out2:Ev (fun k=>gradinelaw16_EvalsFloat.j2 k) true:=Ev.step (fun k=>gradinelaw16_EvalsFloat.j2.eq_2 ..) out
 have l0:List.length l≤9223372036854775807:=by unfold maxLen at l0;omega
 obtain ⟨r,hr,g⟩:=Many_c (l:=l) l0 w0
 refine Ev.bind hr ?_
 cases r
 case true=>exact Ev.ifp rfl out2
 refine Ev.ifn (by decide) ?_
 by_cases g1:List.length l≤60
 case neg=>exact Ev.ifp (by omega) out2
 refine Ev.ifn (by omega) ?_
 by_cases g2:List.length inn≤30
 case neg=>exact Ev.ifp (by omega) out2
 refine Ev.ifn (by omega) ?_
 rcases Float_both hq g1 (g rfl) w1 with ⟨e1,e2⟩ | ⟨f1,e1,e2⟩
 · exact Ev.bind e1 (Ev.bind e2 (Ev.ifp rfl (Ev.ifp rfl (Ev.bind (plain_Words_c (by simp)) (Ev.ifp rfl out)))))
 · have hln:=fll_len (sq:=sq) (inn:=inn) l 0 []
   simp only [List.length_nil] at hln
   exact Ev.bind e1 (Ev.bind e2 (Ev.ifp rfl (Ev.ifp rfl (Ev.bind (plain_Words_c (by omega)) (Ev.ifp rfl out)))))
end Go.Proofs.YtjocbnjpjihpnaaGreat.Pure
