/- The tangents of the outputs, weighted, and the adjoints of the inputs, weighted, have the same sum: for every program and any values of forms. -/
import Derived.Test.YtjocbnjpjihpnaaFgradinelaw17same
import Derived.Test.YtjocbnjpjihpnaaBB
import Derived.Test.YtjocbnjpjihpnaaCCb
import Derived.Test.YtjocbnjpjihpnaaFgradinelaw17TangentAdjoint
namespace Go.Proofs.Ytjocbnjpjihpnaa.Pure
open Go.RowKit Go.Proofs.Ytjocbnjpjihpnaa.P Go.Proofs.Ytjocbnjpjihpnaa.M Go.Proofs.YtjocbnjpjihpnaaW.PrintWords Go.Proofs.YtjocbnjpjihpnaaW.PrintLast Go.Proofs.YtjocbnjpjihpnaaW.PrintMore Go.Proofs.YtjocbnjpjihpnaaW.Abs
set_option linter.unusedVariables false

theorem out6:Ev (fun k=>(gradinelaw17_same.f k).bind fun t=>some t) true:=Ev.bind law17_same_c (Ev.same rfl)
theorem Adj_l1 {B D:List Rat} {c1 c2 c3:List R3} {l:List I6} {x:Rat} (hB:B.length≤D.length) (hl:D.length≤30) (bB:BdL 800000 B) (bD:BdL 192 D) (e2:c2=D.map en) (hx:Bd 60000000 x) (good:x=sm B D B.length) (d:Nat) : ∀ i:Nat,i+d=B.length→Bd (810000*(i+1)) (sm B D i) →
 Ev (fun k=>gradinelaw17_TangentAdjoint.l1 k (B.map en) (B.length:Int) i l c1 c2 c3 (en x).1 (en x).2.1 (en x).2.2 (en (sm B D i)).1 (en (sm B D i)).2.1 (en (sm B D i)).2.2) true:=by
 induction d with
 | zero =>
   intro i hi hb
   refine Ev.step (fun k=>gradinelaw17_TangentAdjoint.l1.eq_2 ..) (Ev.ifn (by omega) ?_)
   rw [show i=B.length by omega,← good]
   have S:Ev (fun k=>rat_Same.f k (en x).1 (en x).2.1 (en x).2.2 (en x).1 (en x).2.1 (en x).2.2) true:=by
    have hh:=hx.2
    have a:=dg_len_bl (ab x.num)
    have b:=dg_len_bl (x.den:Int)
    refine Ev.eqr (rat_Same_c (s:=(en x).1) (s':=(en x).1) (c:=(en x).2.1) (d:=(en x).2.2) ?_ ?_) (decide_eq_true rfl)
    · rw [en_parts];dsimp only;omega
    · rw [en_parts];dsimp only;omega
   exact Ev.bind S (Ev.ifp rfl out6)
 | succ d ih =>
   intro i hi hb
   have lB:=len_en B
   have lD:((c2).length:Int)=D.length:=by rw [e2,len_en]
   have ew:wrap64 ((i:Int)+1)=((i+1:Nat):Int):=by rw [w64_id (by omega) (by omega)];omega
   have b1:=gq_Bd (a:=(i:Int)) bB (by omega) (by omega)
   have b2:=gq_Bd (a:=(i:Int)) bD (by omega) (by omega)
   refine Ev.step (fun k=>gradinelaw17_TangentAdjoint.l1.eq_2 ..) (Ev.ifp (by omega) (Ev.ifp (by omega) (Ev.ifp (by omega) (Ev.ifp (by omega) ?_))))
   have rD:=rd_en (l:=D) (a:=(i:Int)) (by omega) (by omega)
   rw [← e2] at rD
   rw [rd_en (l:=B) (a:=(i:Int)) (by omega) (by omega),rD,ew]
   clear ew
   have bm:=Bd_mul b1 b2
   exact Ev.bind (rat_Mul_eB b1 b2 (by omega) (by omega)) (Ev.bind (rat_Add_eB hb bm (by omega) (by omega)) (ih (i+1) (by omega) ((Bd_add hb bm).mono (by omega))))
theorem Adj_l0 {T C B D:List Rat} {outs:List Int} {c1 c2 c3:List R3} {l:List I6} (hoc:outs.length=C.length) (ho:outs.length≤30) (hr : ∀ o∈outs,0≤o∧o<T.length) (bT:BdL 4096 T) (bC:BdL 192 C) (X:Rat)
 (fin:Bd 60000000 X→Ev (fun k=>gradinelaw17_TangentAdjoint.l1 k (B.map en) ((B.map en).length:Int) 0 l c1 c2 c3 (en X).1 (en X).2.1 (en X).2.2 (en 0).1 (en 0).2.1 (en 0).2.2) true) (d:Nat) : ∀ (i:Nat) (acc:Rat),i+d=outs.length→Bd (4300*(i+1)) acc→xsum T (outs.drop i) (C.drop i) acc=X →
 Ev (fun k=>gradinelaw17_TangentAdjoint.l0 k outs (C.map en) (T.map en) (B.map en) (outs.length:Int) i l c1 c2 c3 (en acc).1 (en acc).2.1 (en acc).2.2 (en 0).1 (en 0).2.1 (en 0).2.2) true:=by
 induction d with
 | zero =>
   intro i acc hi hb hX
   rw [List.drop_of_length_le (by omega),List.drop_of_length_le (by omega)] at hX
   obtain rfl:acc=X:=hX
   exact Ev.step (fun k=>gradinelaw17_TangentAdjoint.l0.eq_2 ..) (Ev.ifn (by omega) (fin (hb.mono (by omega))))
 | succ d ih =>
   intro i acc hi hb hX
   have lT:=len_en T
   have lC:=len_en C
   have eo:outs.drop i=rd outs i::outs.drop (i+1):=by
    have:rd outs (i:Int)=outs[i]'(by omega):=by unfold rd;rw [Int.toNat_natCast];exact getD_of (by omega)
    rw [this]
    exact List.drop_eq_getElem_cons (by omega)
   have ec:C.drop i=gq C i::C.drop (i+1):=by
    have:gq C (i:Int)=C[i]'(by omega):=by unfold gq;rw [Int.toNat_natCast];exact getD_of (by omega)
    rw [this]
    exact List.drop_eq_getElem_cons (by omega)
   have mo:rd outs (i:Int)∈outs:=by
    have:rd outs (i:Int)=outs[i]'(by omega):=by unfold rd;rw [Int.toNat_natCast];exact getD_of (by omega)
    rw [this]
    exact List.getElem_mem _
   have ro:=hr _ mo
   rw [eo,ec] at hX
   have ew:wrap64 ((i:Int)+1)=((i+1:Nat):Int):=by rw [w64_id (by omega) (by omega)];omega
   refine Ev.step (fun k=>gradinelaw17_TangentAdjoint.l0.eq_2 ..) (Ev.ifp (by omega) (Ev.ifp (by omega) (Ev.ifp (by omega) ?_)))
   rw [ew]
   clear ew eo ec mo
   generalize rd outs (i:Int)=o at *
   have b1:=gq_Bd (a:=o) bT ro.1 ro.2
   have b2:=gq_Bd (a:=(i:Int)) bC (by omega) (by omega)
   have bm:=Bd_mul b1 b2
   refine Ev.ifn (by omega) (Ev.ifn (by omega) (Ev.ifp (by omega) (Ev.ifp (by omega) (Ev.ifp (by omega) ?_))))
   rw [rd_en (l:=T) (a:=o) ro.1 ro.2,rd_en (l:=C) (a:=(i:Int)) (by omega) (by omega)]
   exact Ev.bind (rat_Mul_eB b1 b2 (by omega) (by omega)) (Ev.bind (rat_Add_eB hb bm (by omega) (by omega)) (ih (i+1) _ (by omega) ((Bd_add hb bm).mono (by omega)) hX))
theorem Adjoint_main (l:List I6) (inn dirs forms cots:List R3) (outs:List Int) (l0:l.length≤9223372036854775807) (w0:WsI l) (w1:WsR inn) (w2:WsR dirs) (w3:WsR forms) (w5:WsR cots):Ev (fun k=>gradinelaw17_TangentAdjoint.f k l inn dirs forms outs cots) true:=by
 have o2:Ev (fun k=>gradinelaw17_TangentAdjoint.j2 k) true:=Ev.step (fun k=>gradinelaw17_TangentAdjoint.j2.eq_2 ..) out6
 have o6:Ev (fun k=>gradinelaw17_TangentAdjoint.j6 k) true:=Ev.step (fun k=>gradinelaw17_TangentAdjoint.j6.eq_2 ..) out6
 obtain ⟨r,hr,g⟩:=few_c (l:=l) (inn:=inn) (dirs:=dirs) (forms:=forms) l0 w0 w1 w2 w3
 refine Ev.bind hr ?_
 cases r
 · exact Ev.ifn (by decide) o2
 obtain ⟨g1,g2,g3,g4,g5,g6,g7,g8⟩:=g rfl
 refine Ev.ifp rfl ?_
 by_cases lo:outs.length≤30
 case neg=>exact Ev.ifp (by omega) o2
 refine Ev.ifn (by omega) ?_
 by_cases lc:cots.length≤30
 case neg=>exact Ev.ifp (by omega) o2
 refine Ev.ifn (by omega) ?_
 obtain ⟨r3,q3,g9⟩:=Longer_c (l:=cots) (by omega) 3
 refine Ev.bind q3 ?_
 cases r3
 case true=>exact Ev.ifp rfl o2
 have s5 : ∀ x∈cots,Sh3 x:=Sh3_of w5 (g9.1 rfl)
 refine Ev.ifn (by decide) ?_
 obtain ⟨B1,B2⟩:=Back_c (l:=l) (inn:=inn) (forms:=forms) (cots:=cots) (outs:=outs) g1 g5 (by omega) (by omega) lo g6 s5 g8
 obtain ⟨ra,A1,A2⟩:=Of_prog g1 g5 (by omega) (by omega) (by omega) g6 (dirs_ok g7) g8 (inn:=inn) (dirs:=dirs) (forms:=forms)
 refine Ev.bind A1 ?_
 by_cases z1:ra.2.2.2=0
 case neg =>
  have any : ∃ r,Ev (fun k=>tangent_Back.f k l inn forms outs cots) r:=by
   by_cases hc:outs.length=cots.length∧ ∀ x∈cots,RV x
   · rcases Exact_prog g1 g5 (by omega) (by omega) g6 g8 with e1 | ⟨f1,e1⟩
     · exact ⟨_,(B2 hc.1 hc.2).1 e1⟩
     · exact ⟨_,(B2 hc.1 hc.2).2 f1 e1⟩
   · exact ⟨_,B1 hc⟩
  obtain ⟨rb2,R⟩:=any
  exact Ev.bind R (Ev.ifn z1 o6)
 obtain ⟨hid,vd,f1,e1,rfl⟩:=A2 z1
 by_cases hc:outs.length=cots.length∧ ∀ x∈cots,RV x
 case neg=>exact Ev.bind (B1 hc) (Ev.ifp z1 (Ev.ifn (show ¬ (1:Int)=0 by decide) o6))
 obtain ⟨hlen,vc⟩:=hc
 refine Ev.bind ((B2 hlen vc).2 f1 e1) (Ev.ifp z1 ?_)
 by_cases z2:(bkS l (inn.map de) (forms.map de) (cots.map de) outs).2.2=0
 case neg=>exact Ev.ifn z2 o6
 refine Ev.ifp z2 ?_
 obtain ⟨p1,p2,p3⟩:=tOf_ok (l:=l) (inn:=inn.map de) (dirs:=dirs.map de) (forms:=forms.map de) z1
 obtain ⟨_,bT,_,_⟩:=tOf_lists l (inn.map de) (dirs.map de) (forms.map de)
 have he:(exS l (inn.map de) (forms.map de)).2.2=0:=by
  by_cases h:(exS l (inn.map de) (forms.map de)).2.2=0
  · exact h
  · have z:(tOf l (inn.map de) (dirs.map de) (forms.map de)).2.2.2=0:=z1
    unfold tOf at z
    rw [if_neg h] at z
    exact absurd z h
 have hin : ∀ x∈l,x.1=1→x.2.1<(inn.map de).length:=exl_inputs l 0 [] 0 he
 have hfi : ∀ x∈l,x.1=1→0≤x.2.1∧x.2.1<65536:=by
  intro x hx h1
  obtain ⟨j,hj,rfl⟩:=List.getElem_of_mem hx
  have:=op_of (hf_at f1 hj)
  omega
 have li:(inn.map de).length=inn.length:=List.length_map ..
 have ld:(dirs.map de).length=dirs.length:=List.length_map ..
 have lcm:(cots.map de).length=cots.length:=List.length_map ..
 have n0:=nI_le l 0
 have n1:nI l 0≤inn.length:=nI_max l 0 (inn.length) (by omega) (fun x hx h1=>by have:=hin x hx h1;omega)
 have e4:(cots.map de).map en=cots:=list_en (fun x hx=>⟨(s5 x hx).1,(s5 x hx).2.1⟩) vc
 have e2:(dirs.map de).map en=dirs:=list_en (fun x hx=>⟨(g7 x hx).1,(g7 x hx).2.1⟩) vd
 have bC:BdL 192 (cots.map de):=(list_Bd s5 vc).mono (by omega)
 have bD:BdL 192 (dirs.map de):=(list_Bd g7 vd).mono (by omega)
 have key : ∃ B:List Rat,(bkS l (inn.map de) (forms.map de) (cots.map de) outs).1=B∧B.length=(nI l 0).toNat∧BdL 800000 B∧xsum (tOf l (inn.map de) (dirs.map de) (forms.map de)).2.1 outs (cots.map de) 0=sm B (dirs.map de) B.length∧ ∀ o∈outs,0≤o∧o<l.length:=by
  have hfl : ∀ k:Nat,k<l.length→FitsP (l.getD k zI) ((0+k:Nat):Int):=fun k hk=>by rw [Nat.zero_add];exact f1 k hk
  have tg:=tal_get (vals:=(exS l (inn.map de) (forms.map de)).1) (dirs:=dirs.map de) l 0 [] rfl hfl p1
  rw [← p2] at tg
  generalize (tOf l (inn.map de) (dirs.map de) (forms.map de)).2.1=T at *
  have tg : ∀ k:Nat,k<l.length→(tst (l.getD k zI) (gq (exS l (inn.map de) (forms.map de)).1 k) (exS l (inn.map de) (forms.map de)).1 T (dirs.map de)).1=0∧gq T k=(tst (l.getD k zI) (gq (exS l (inn.map de) (forms.map de)).1 k) (exS l (inn.map de) (forms.map de)).1 T (dirs.map de)).2:=fun k hk=>by
   have:=tg k hk
   rwa [Nat.zero_add] at this
  unfold bkS at z2 ⊢
  rw [if_pos he] at z2 ⊢
  unfold bkO at z2 ⊢
  have O:=otl_sum (T:=T) (M:=l.length) outs (cots.map de) (List.replicate l.length 0)
  generalize otl l.length outs (cots.map de) (List.replicate l.length 0)=w at *
  cases w with
  | none=>exact absurd z2 (show ¬ (11:Int)=0 by decide)
  | some has =>
    obtain ⟨o1,o2,o3⟩:=O has (by rw [List.length_replicate]) rfl
    have hr2 : ∀ x∈l,x.1=1→x.2.1<(List.replicate (nI l 0).toNat (0:Rat)).length:=by
     intro x hx h1
     rw [List.length_replicate]
     have:=nI_has l 0 x hx h1 (hfi x hx h1).2
     omega
    have Bk:=bkl_sum (T:=T) (D:=dirs.map de) f1 (fun x hx h1=>(hfi x hx h1).1) tg l.length has (List.replicate (nI l 0).toNat 0) (Nat.le_refl _) o1 hr2 z2
    have Bb:=bkl_Bc (vals:=(exS l (inn.map de) (forms.map de)).1) (l:=l) (fun x hx h1=>(hfi x hx h1).1) l.length has (List.replicate (nI l 0).toNat 0) 1 (Nat.le_refl _) hr2 (Bc_rep _)
    rw [sm_zero,o2,sm_zero,Rat.add_zero] at Bk
    refine ⟨_,rfl,by rw [Bk.2,List.length_replicate],Bb.1.mono (by omega), ?_,o3 (by omega)⟩
    rw [Bk.2]
    exact Bk.1
 obtain ⟨B,k1,k2,k3,k4,k5⟩:=key
 unfold exO tOO
 dsimp only
 rw [k1]
 generalize (tOf l (inn.map de) (dirs.map de) (forms.map de)).2.1=T at *
 have lT:=len_en T
 have lB:=len_en B
 refine Ev.ifn (by omega) (Ev.ifp (by omega) (Ev.ifp (by omega) (Ev.bind (ref07_Of_c (n:=0) (by omega) (by omega)) (Ev.bind (ref07_Of_c (n:=0) (by omega) (by omega)) ?_))))
 have z:Bd (4300*((0:Nat)+1)) (0:Rat):=Bd_zero (by omega)
 have R:=Adj_l0 (T:=T) (C:=cots.map de) (B:=B) (D:=dirs.map de) (outs:=outs) (c1:=inn) (c2:=dirs) (c3:=forms) (l:=l) (by omega) (by omega) (fun o ho=>by have:=k5 o ho;omega) bT bC (sm B (dirs.map de) B.length) (fun hx=>by
  have:=Adj_l1 (B:=B) (D:=dirs.map de) (c1:=inn) (c2:=dirs) (c3:=forms) (l:=l) (x:=sm B (dirs.map de) B.length) (by omega) (by omega) k3 bD e2.symm hx rfl B.length 0 (by omega) (Bd_zero (by omega))
  rw [lB]
  exact this) outs.length 0 0 (by omega) z (by rw [List.drop_zero,List.drop_zero];exact k4)
 rw [e4] at R
 exact R
def TangentAdjointS:Prop:= ∀ (x0:T RG.tCase) (x1:T RG.tInts) (x2:T RG.tRats),RG.Wf RG.tCase x0→RG.Wf RG.tInts x1→RG.Wf RG.tRats x2→ ∃ k,gradinelaw17_TangentAdjoint.f k x0.1 x0.2.1 x0.2.2.1 x0.2.2.2 x1 x2=some true
theorem TangentAdjoint:TangentAdjointS:=by
 rintro ⟨l,inn,dirs,forms⟩ outs cots ⟨h0,h1,h2,h3⟩ h4 h5
 obtain ⟨l0,w0⟩:=wf_prog h0
 exact Ev.rounds (Adjoint_main l inn dirs forms cots outs (by unfold maxLen at l0;dsimp only at l0;omega) w0 (wf_rats h1).2 (wf_rats h2).2 (wf_rats h3).2 (wf_rats h5).2)
end Go.Proofs.Ytjocbnjpjihpnaa.Pure
