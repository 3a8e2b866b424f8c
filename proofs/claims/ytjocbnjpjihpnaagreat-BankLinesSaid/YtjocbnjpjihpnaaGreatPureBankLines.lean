/- What a bank writes comes to what the same calls reckon, given what comparisons came to, exactly and bit by bit. -/
import Derived.Test.YtjocbnjpjihpnaaGreatFgradinelaw18BankLines
import Derived.Test.YtjocbnjpjihpnaaGreatFgradinelaw18same
import Derived.Test.YtjocbnjpjihpnaaGreatRT
import Derived.Test.YtjocbnjpjihpnaaGreatCCb
import Derived.Test.YtjocbnjpjihpnaaGreatCCc
namespace Go.Proofs.YtjocbnjpjihpnaaGreat.Pure
open Go.RowKit Go.Proofs.YtjocbnjpjihpnaaGreat.P Go.Proofs.YtjocbnjpjihpnaaGreat.M Go.Proofs.YtjocbnjpjihpnaaGreatW.AD Go.Proofs.YtjocbnjpjihpnaaGreatW.AU Go.Proofs.YtjocbnjpjihpnaaGreatW.Ac Go.Proofs.YtjocbnjpjihpnaaGreatW.HU
set_option linter.unusedVariables false
theorem ACY {l:T RG.yz} (h:RG.Wf RG.yz l):List.length l<=maxLen/\ ∀a∈(l:List A6),AOk a:=⟨h.1,λx hx=>⟨wf_i64 (h.2 x hx).2.2.2.1,wf_i64 (h.2 x hx).2.2.2.2.1,wf_u64 (h.2 x hx).2.2.2.2.2⟩⟩
def bk:Prop:= ∀(x0:T (.int .i64)) (x1:T RG.yz),RG.Wf (.int .i64) x0->RG.Wf RG.yz x1-> ∃k,AL.f k x0 x1=some true
theorem AHf {sq:Int->Int} {m:Int} {Ad:List A6} :LI sq m Ad 0 [] [] 0 [] [] [] [] [] where
 ll:=by simp
 lt:=by simp
 lm:=by simp
 lp:=by simp
 li:=by simp
 lb:=rfl
 n0:=by omega
 n1:=by omega
 sz:=λv hv=>absurd hv (by simp)
 vo:=λv hv=>absurd hv (by simp)
 rel:=by
  have:iJ m [] []= []:=by unfold iJ;split<;>rfl
  rw[this];exact Rel.nil sq m
 bd:=λv hv=>absurd hv (by simp)
 bw:=GI
 com:=λasks _ _ m B3 bits l t s X=>X
theorem AE6 {m:Int} {L:List A6} (hw : ∀a∈L,AOk a):Ev (λk=>AL.f k m L) true:=by
 obtain⟨sq,y8⟩:=AE7;have out:Ev (λk=>(AR.f k).bind λt=>some t) true:=Ev.bind WY (Ev.same rfl);by_cases h0:m<0
 · exact Ev.bind (a:=(true,0,0,[],0,0,false,0)) (Ev.AI h0 (Ev.same rfl)) (Ev.AI rfl (Ev.AO (by omega) (Ev.AO (by omega) out)))
 by_cases h2:m>2
 · exact Ev.bind (a:=(true,0,0,[],0,0,false,0)) (Ev.AO h0 (Ev.AI h2 (Ev.same rfl))) (Ev.AI rfl (Ev.AO (by omega) (Ev.AO (by omega) out)))
 refine Ev.bind (ACZ (m:=m) (by omega) (by omega)) (Ev.AO ff ?_);have run:m=0\/m=1->L.length<=60->Ev (l0F m L [] [] (0:Nat) [] [] (BS m [] 0 false 0)) true:=λhm hL =>
  ACa y8 hm hL hw WY L.length 0 [] [] 0 false [] [] [] [] [] (by omega) AHf
 by_cases hm0:m=0
 · refine Ev.AI hm0 ?_
   by_cases hl:(L.length:Int)>60
   · exact Ev.AI hl out
   · exact Ev.AO hl (run (.inl hm0) (by omega))
 refine Ev.AO hm0 ?_;by_cases hm1:m=1
 · refine Ev.AI hm1 ?_
   by_cases hl:(L.length:Int)>60
   · exact Ev.AI hl out
   · exact Ev.AO hl (run (.inr hm1) (by omega))
 exact Ev.AO hm1 out
theorem AAD:bk:=by
 intro m L _ h1;exact Ev.rounds (AE6 (ACY h1).2)
end Go.Proofs.YtjocbnjpjihpnaaGreat.Pure
