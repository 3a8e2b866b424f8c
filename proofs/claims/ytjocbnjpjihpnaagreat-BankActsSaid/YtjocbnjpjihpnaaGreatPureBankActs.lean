/- What comes of any operations of a bank, on exact numbers and doubles: by the program as by the document. -/
import Derived.Test.YtjocbnjpjihpnaaGreatFgradinelaw18BankActs
import Derived.Test.YtjocbnjpjihpnaaGreatFgradinelaw18same
import Derived.Test.YtjocbnjpjihpnaaGreatRT
import Derived.Test.YtjocbnjpjihpnaaGreatCCb
import Derived.Test.YtjocbnjpjihpnaaGreatCCc
namespace Go.Proofs.YtjocbnjpjihpnaaGreat.Pure
open Go.RowKit Go.Proofs.YtjocbnjpjihpnaaGreat.P Go.Proofs.YtjocbnjpjihpnaaGreat.M Go.Proofs.YtjocbnjpjihpnaaGreatW.AH Go.Proofs.YtjocbnjpjihpnaaGreatW.AX Go.Proofs.YtjocbnjpjihpnaaGreatW.Ad Go.Proofs.YtjocbnjpjihpnaaGreatW.Ic
set_option linter.unusedVariables false
theorem AIB {l:T RG.ACB} (h:RG.Wf RG.ACB l):List.length l<=maxLen/\ ∀a∈(l:List A6),AOk a:=⟨h.1,λx hx=>⟨wf_i64 (h.2 x hx).2.2.2.1,wf_i64 (h.2 x hx).2.2.2.2.1,wf_u64 (h.2 x hx).2.2.2.2.2⟩⟩
def nx:Prop:= ∀(x0:T (.int .i64)) (x1:T RG.ACB),RG.Wf (.int .i64) x0->RG.Wf RG.ACB x1-> ∃k,Ak.f k x0 x1=some true
theorem AKq {m:Int} {L:List A6} (hw : ∀a∈L,AOk a):Ev (λk=>Ak.f k m L) true:=by
 obtain⟨sq,mz⟩:=AIC;have out:Ev (λk=>(At.f k).bind λt=>some t) true:=Ev.bind Ym (Ev.same rfl);have ff : ¬(false=true):=by decide
 by_cases h0:m<0
 · refine Ev.bind (a:=(true,0,0,[],0,0,false,0)) (Ev.AK h0 (Ev.same rfl)) (Ev.AK rfl (Ev.AM (by omega) (Ev.AM (by omega) (Ev.AM (by omega) out))))
 by_cases h2:m>2
 · refine Ev.bind (a:=(true,0,0,[],0,0,false,0)) (Ev.AM h0 (Ev.AK h2 (Ev.same rfl))) (Ev.AK rfl (Ev.AM (by omega) (Ev.AM (by omega) (Ev.AK (by omega) (Ev.AK (by rw[decide_eq_false (by omega)]) out)))))
 refine Ev.bind (AFN (m:=m) (by omega) (by omega)) (Ev.AM ff ?_);have dt:true=decide (m<=2):=by rw[decide_eq_true (by omega)]
 have run:m=0\/m=1->L.length<=60->Ev (λk=>Ak.l0 k m L (L.length:Int) 0 m 0 0 [] false [] [] [] [] m 0 [] [] [] 0 0 false 0) true:=λhm hL =>
  AID mz hm hL hw Ym L.length 0 [] [] 0 0 false [] (by omega) (by simp) (by simp) (by simp) (by omega) (by omega) (λv hv=>absurd hv (by simp)) (λ_ v hv=>absurd hv (by simp))
 by_cases hm0:m=0
 · refine Ev.AK hm0 ?_
   by_cases hl:(L.length:Int)>60
   · exact Ev.AK hl (Ev.AK (by omega) (Ev.AK dt out))
   · exact Ev.AM hl (run (.inl hm0) (by omega))
 refine Ev.AM hm0 ?_;by_cases hm1:m=1
 · refine Ev.AK hm1 ?_
   by_cases hl:(L.length:Int)>60
   · exact Ev.AK hl (Ev.AK (by omega) (Ev.AK dt out))
   · exact Ev.AM hl (run (.inr hm1) (by omega))
 exact Ev.AM hm1 (Ev.AK (by omega) (Ev.AK dt out))
theorem AEH:nx:=by
 intro m L _ h1;exact Ev.rounds (AKq (AIB h1).2)
end Go.Proofs.YtjocbnjpjihpnaaGreat.Pure
