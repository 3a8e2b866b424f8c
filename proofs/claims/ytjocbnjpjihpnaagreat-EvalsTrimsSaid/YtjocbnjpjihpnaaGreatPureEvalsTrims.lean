/- Without what its outputs do not need a program comes to the same at these. -/
import Derived.Test.YtjocbnjpjihpnaaGreatFgradinelaw16same
import Derived.Test.YtjocbnjpjihpnaaGreatCCb
import Derived.Test.YtjocbnjpjihpnaaGreatFgradinelaw16EvalsTrims
namespace Go.Proofs.YtjocbnjpjihpnaaGreat.Pure
open Go.RowKit Go.Proofs.YtjocbnjpjihpnaaGreat.P Go.Proofs.YtjocbnjpjihpnaaGreat.M Go.Proofs.YtjocbnjpjihpnaaGreatW.PrintWords Go.Proofs.YtjocbnjpjihpnaaGreatW.PrintLast Go.Proofs.YtjocbnjpjihpnaaGreatW.PrintMore Go.Proofs.YtjocbnjpjihpnaaGreatW.Abs
set_option linter.unusedVariables false

theorem law_l0 {l:List I6} {outs at':List Int} {v w:List Rat} (ho:outs.length≤1000000) (hl:l.length≤60) (ha:at'.length=outs.length) (hv:v.length=l.length) (hbv:BdL 4096 v) (hbw:BdL 4096 w)
 (h : ∀ q,q<outs.length→0≤outs.getD q 0→outs.getD q 0<l.length→0≤at'.getD q 0∧at'.getD q 0<w.length∧gq w (at'.getD q 0)=gq v (outs.getD q 0)) (d:Nat) : ∀ i:Nat,i+d=outs.length →
 Ev (fun k=>gradinelaw16_EvalsTrims.l0 k l outs (v.map en) at' (w.map en) (outs.length:Int) i) true:=by
 have lv:=len_en v
 have lw:=len_en w
 induction d with
 | zero =>
   intro i h1
   exact Ev.step (fun k=>gradinelaw16_EvalsTrims.l0.eq_2 ..) (Ev.ifn (by omega) (Ev.bind law16_same_c (Ev.same rfl)))
 | succ d ih =>
   intro i h1
   have ew:wrap64 ((i:Int)+1)=((i+1:Nat):Int):=by rw [w64_id (by omega) (by omega)];omega
   have nxt:Ev (fun k=>gradinelaw16_EvalsTrims.l0 k l outs (v.map en) at' (w.map en) (outs.length:Int) (wrap64 ((i:Int)+1))) true:=by rw [ew];exact ih (i+1) (by omega)
   refine Ev.step (fun k=>gradinelaw16_EvalsTrims.l0.eq_2 ..) (Ev.ifp (by omega) (Ev.ifp (by omega) (Ev.ifp (by omega) ?_)))
   rw [rd_int,rd_int]
   by_cases h0:outs.getD i 0<0
   · exact Ev.ifp h0 nxt
   refine Ev.ifn h0 ?_
   by_cases h2:outs.getD i 0≥(l.length:Int)
   · exact Ev.ifp h2 nxt
   refine Ev.ifn h2 ?_
   obtain ⟨q1,q2,q3⟩:=h i (by omega) (by omega) (by omega)
   refine Ev.ifp (by omega) (Ev.ifn (by omega) (Ev.ifn (by omega) (Ev.ifp (by omega) (Ev.ifp (by omega) (Ev.ifp (by omega) (Ev.ifp (by omega) ?_))))))
   rw [rd_en (by omega) (by omega),rd_en (by omega) (by omega),q3]
   have e:=en_len (gq_Bd (a:=outs.getD i 0) hbv (by omega) (by omega)) (by omega)
   refine Ev.bind (ref07_Same_c (by omega) (by omega)) (Ev.ifp ?_ nxt)
   exact decide_eq_true rfl
def EvalsTrimsS:Prop:= ∀ (x0:T RG.tProg) (x1:T RG.tRats) (x2:T RG.tInts),RG.Wf RG.tProg x0→RG.Wf RG.tRats x1→RG.Wf RG.tInts x2→ ∃ k,gradinelaw16_EvalsTrims.f k x0 x1 x2=some true
theorem EvalsTrims:EvalsTrimsS:=by
 intro l inn outs h0 h1 h2
 obtain ⟨l0,w0⟩:=wf_prog h0
 obtain ⟨l1,w1⟩:=wf_rats h1
 clear h0 h1 h2
 refine Ev.rounds ?_
 have out:Ev (fun k=>(gradinelaw16_same.f k).bind fun t=>some t) true:=Ev.bind law16_same_c (Ev.same rfl)
 have J2:Ev (fun k=>gradinelaw16_EvalsTrims.j2 k) true:=Ev.step (fun k=>gradinelaw16_EvalsTrims.j2.eq_2 ..) out
 have l0:List.length l≤9223372036854775807:=by unfold maxLen at l0;omega
 obtain ⟨r,hr,g⟩:=Few_c (l:=l) (inn:=inn) (forms:= []) l0 w0 w1 (fun x hx=>absurd hx (by simp))
 refine Ev.bind hr ?_
 cases r
 · exact Ev.ifn (by decide) J2
 refine Ev.ifp rfl ?_
 obtain ⟨g1,g2,g3,g4,g5,g6⟩:=g rfl
 by_cases hO:((outs:List Int).length:Int)>30
 · exact Ev.ifp hO J2
 refine Ev.ifn hO ?_
 have hO:List.length (outs:List Int)≤30:=by omega
 obtain ⟨a1,A1,c1⟩:=ref15_Right_c (l:=l) (by omega) (fun x hx=>(g4 x hx).sm)
 obtain ⟨a2,A2,c2⟩:=ref16_Rats_c (l:=inn) (by omega) (fun x hx=>(g5 x hx).sm)
 refine Ev.bind A1 ?_
 cases a1
 · exact Ev.ifn (by decide) J2
 refine Ev.ifp rfl (Ev.bind A2 ?_)
 cases a2
 · exact Ev.ifn (by decide) J2
 refine Ev.ifp rfl ?_
 have f1:=c1.1 rfl
 have f2:=c2.1 rfl
 have E:=evals_ok (forms:= []) g1 g4 (by omega) (by simp) g5 g6 f1 f2 (fun x hx=>absurd hx (by simp))
 refine Ev.bind E ?_
 have hv:BdL 4096 (exS l (inn.map de) []).1:=exl_Bd l 0 [] 0 (BdL_nil _)
 by_cases he:(exS l (inn.map de) []).2.2=0
 · have hln:=(exl_len (inn:=inn.map de) (forms:= []) l 0 [] 0).1 he
   have ev:exS l (inn.map de) []=((exS l (inn.map de) []).1,0,0):=Prod.ext rfl (Prod.ext hln.2 he)
   obtain ⟨z1,p,at',w,q1,q2,q3,q4,q5,q6,q7,q8⟩:=line_Trim_c (outs:=outs) f1 g4 g1 (by omega) ev
   refine Ev.ifp he (Ev.bind q1 ?_)
   have E2:=evals_ok (forms:= []) q5 q4 (by omega) (by simp) g5 g6 q3 f2 (fun x hx=>absurd hx (by simp))
   refine Ev.bind E2 ?_
   have hw:BdL 4096 (exS p (inn.map de) []).1:=exl_Bd p 0 [] 0 (BdL_nil _)
   have q6':exS p (List.map de inn) (List.map de [])=(w,0,0):=q6
   rw [q6']
   rw [q6] at hw
   refine Ev.ifp rfl (Ev.ifp ?_ (Ev.ifp ?_ (Ev.ifp ?_ ?_)))
   · show (((exS l (inn.map de) []).1.map en).length:Int)=_
     rw [len_en,z1]
   · show (at'.length:Int)=_
     rw [q2]
   · show ((w.map en).length:Int)=_
     rw [len_en,q7]
   · exact law_l0 (by omega) g1 q2 z1 hv hw q8 outs.length 0 (by omega)
 · refine Ev.ifn he ?_
   have hln:(exS l (inn.map de) []).1= []:=exl_err l 0 [] 0 he
   refine Ev.ifp ?_ out
   show (((exS l (inn.map de) []).1.map en).length:Int)=0
   rw [hln];rfl
end Go.Proofs.YtjocbnjpjihpnaaGreat.Pure
