/- What a bank takes back is as if it had not been done, also behind an error; what may not be taken back is not. -/
import Derived.Test.YtjocbnjpjihpnaaGreatFgradinelaw18BankUndo
import Derived.Test.YtjocbnjpjihpnaaGreatFgradinelaw18same
import Derived.Test.YtjocbnjpjihpnaaGreatRT
import Derived.Test.YtjocbnjpjihpnaaGreatCCb
namespace Go.Proofs.YtjocbnjpjihpnaaGreat.Pure
open Go.RowKit Go.Proofs.YtjocbnjpjihpnaaGreat.P Go.Proofs.YtjocbnjpjihpnaaGreat.M Go.Proofs.YtjocbnjpjihpnaaGreatW.AD Go.Proofs.YtjocbnjpjihpnaaGreatW.AR Go.Proofs.YtjocbnjpjihpnaaGreatW.AY Go.Proofs.YtjocbnjpjihpnaaGreatW.Gb
set_option linter.unusedVariables false
theorem nW {l:T RG.fS} (h:RG.Wf RG.fS l):List.length l<=maxLen/\ ∀a∈(l:List A6),AOk a:=⟨h.1,λx hx=>⟨wf_i64 (h.2 x hx).2.2.2.1,wf_i64 (h.2 x hx).2.2.2.2.1,wf_u64 (h.2 x hx).2.2.2.2.2⟩⟩
def eR:Prop:= ∀(x0:T (.int .i64)) (x1:T RG.fS) (x2:T RG.fS),RG.Wf (.int .i64) x0->RG.Wf RG.fS x1->RG.Wf RG.fS x2-> ∃k,AG.f k x0 x1 x2=some true
theorem ACd {m:Int} :aQ m 0 0 [] [] 0 false 0 [] where
 i0:=by omega
 i1:=by omega
 p1:=by simp
 m1:=by simp
 n0:=by omega
 n1:=by omega
 l1:=by simp
 sz:=λv hv=>absurd hv (by simp)
 ex:=λ_=>⟨rfl,rfl⟩
 wr:=λ_=>rfl
 va:=λ_ _ v hv=>absurd hv (by simp)
 vw:=λ_ _ v hv=>absurd hv (by simp)
theorem AE8 {m:Int} {L M:List A6} (hw : ∀a∈L,AOk a) (wK : ∀a∈M,AOk a):Ev (λk=>AG.f k m L M) true:=by
 obtain⟨sq,nX⟩:=ACe;have out:Ev (λk=>(AM.f k).bind λt=>some t) true:=Ev.bind U4 (Ev.same rfl);have ff : ¬(false=true):=by decide
 by_cases h0:m<0
 · exact Ev.bind (a:=(true,0,0,[],0,0,false,0)) (Ev.AK h0 (Ev.same rfl)) (Ev.AK rfl (Ev.bind (a:=(true,0,0,[],0,0,false,0)) (Ev.AK h0 (Ev.same rfl)) (Ev.AK rfl (Ev.AK h0 out))))
 by_cases h2:m>2
 · exact Ev.bind (a:=(true,0,0,[],0,0,false,0)) (Ev.AP h0 (Ev.AK h2 (Ev.same rfl))) (Ev.AK rfl (Ev.bind (a:=(true,0,0,[],0,0,false,0)) (Ev.AP h0 (Ev.AK h2 (Ev.same rfl))) (Ev.AK rfl (Ev.AP h0 (Ev.AK h2 out)))))
 refine Ev.bind (ug (m:=m) (by omega) (by omega)) (Ev.AP ff (Ev.bind (ug (m:=m) (by omega) (by omega)) (Ev.AP ff (Ev.AP h0 (Ev.AP h2 ?_)))));by_cases hl:(L.length:Int)>40
 · exact Ev.AK hl out
 by_cases hl2:(M.length:Int)>40
 · exact Ev.AP hl (Ev.AK hl2 out)
 exact Ev.AP hl (Ev.AP hl2 (AJW nX (by omega) (by omega) (by omega) (by omega) hw wK U4 L.length 0 0 [] [] 0 false 0 [] [] (by omega) (by simp) ACd))
theorem yM:eR:=by
 intro m L M _ h1 h2;exact Ev.rounds (AE8 (nW h1).2 (nW h2).2)
end Go.Proofs.YtjocbnjpjihpnaaGreat.Pure
