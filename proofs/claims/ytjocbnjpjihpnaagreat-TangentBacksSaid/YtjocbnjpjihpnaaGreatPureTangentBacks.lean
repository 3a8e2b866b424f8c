/- What outputs give back to the inputs, or the first error: by the program as by the reference. -/
import Derived.Test.YtjocbnjpjihpnaaGreatFgradinelaw17same
import Derived.Test.YtjocbnjpjihpnaaGreatBB
import Derived.Test.YtjocbnjpjihpnaaGreatCCb
import Derived.Test.YtjocbnjpjihpnaaGreatFgradinelaw17TangentBacks
namespace Go.Proofs.YtjocbnjpjihpnaaGreat.Pure
open Go.RowKit Go.Proofs.YtjocbnjpjihpnaaGreat.P Go.Proofs.YtjocbnjpjihpnaaGreat.M Go.Proofs.YtjocbnjpjihpnaaGreatW.PrintWords Go.Proofs.YtjocbnjpjihpnaaGreatW.PrintLast Go.Proofs.YtjocbnjpjihpnaaGreatW.PrintMore Go.Proofs.YtjocbnjpjihpnaaGreatW.Abs
set_option linter.unusedVariables false

/-- The same list of great numbers. -/
theorem same_big {l:List Rat} {c:Nat} (h:Bc c l) (hc:c≤200) (hl:l.length≤100000):Ev (fun k=>gradineref16_Same.f k (l.map en) (l.map en)) true:=by
 refine ref16_Same_c (by rw [List.length_map];omega) fun x hx=> ?_
 obtain ⟨y,hy,rfl⟩:=List.mem_map.1 hx
 have hb:=h y hy
 rw [en_parts]
 have a:=dg_len_bl (ab y.num)
 have b:=dg_len_bl (y.den:Int)
 have:=hb.2
 dsimp only
 omega
def TangentBacksS:Prop:= ∀ (x0:T RG.tCase) (x1:T RG.tInts) (x2:T RG.tRats),RG.Wf RG.tCase x0→RG.Wf RG.tInts x1→RG.Wf RG.tRats x2→ ∃ k,gradinelaw17_TangentBacks.f k x0.1 x0.2.1 x0.2.2.1 x0.2.2.2 x1 x2=some true
theorem TangentBacks:TangentBacksS:=by
 rintro ⟨l,inn,dirs,forms⟩ outs cots ⟨h0,h1,h2,h3⟩ h4 h5
 obtain ⟨l0,w0⟩:=wf_prog h0
 obtain ⟨l1,w1⟩:=wf_rats h1
 obtain ⟨l2,w2⟩:=wf_rats h2
 obtain ⟨l3,w3⟩:=wf_rats h3
 obtain ⟨l5,w5⟩:=wf_rats h5
 clear h0 h1 h2 h3 h4 h5
 dsimp only at *
 refine Ev.rounds ?_
 have out:Ev (fun k=>(gradinelaw17_same.f k).bind fun t=>some t) true:=Ev.bind law17_same_c (Ev.same rfl)
 have o2:Ev (fun k=>gradinelaw17_TangentBacks.j2 k) true:=Ev.step (fun k=>gradinelaw17_TangentBacks.j2.eq_2 ..) out
 have o5:Ev (fun k=>gradinelaw17_TangentBacks.j5 k [] 0 1) true:=Ev.step (fun k=>gradinelaw17_TangentBacks.j5.eq_2 ..) (Ev.ifp rfl (Ev.ifp rfl (Ev.ifp rfl out)))
 have l0:List.length l≤9223372036854775807:=by unfold maxLen at l0;omega
 obtain ⟨r,hr,g⟩:=few_c (l:=l) (inn:=inn) (dirs:=dirs) (forms:=forms) l0 w0 w1 w2 w3
 refine Ev.bind hr ?_
 cases r
 · exact Ev.ifn (by decide) o2
 obtain ⟨g1,g2,g3,g4,g5,g6,g7,g8⟩:=g rfl
 refine Ev.ifp rfl ?_
 by_cases lo:List.length outs≤30
 case neg=>exact Ev.ifp (by omega) o2
 refine Ev.ifn (by omega) ?_
 by_cases lc:List.length cots≤30
 case neg=>exact Ev.ifp (by omega) o2
 refine Ev.ifn (by omega) ?_
 obtain ⟨r3,q3,g9⟩:=Longer_c (l:=cots) (by omega) 3
 refine Ev.bind q3 ?_
 cases r3
 case true=>exact Ev.ifp rfl o2
 have s5 : ∀ x∈cots,Sh3 x:=Sh3_of w5 (g9.1 rfl)
 refine Ev.ifn (by decide) ?_
 obtain ⟨B1,B2⟩:=Back_c (l:=l) (inn:=inn) (forms:=forms) (cots:=cots) (outs:=outs) g1 g5 (by omega) (by omega) lo g6 s5 g8
 by_cases hlen:List.length outs=List.length cots
 case neg=>exact Ev.bind (B1 fun k=>hlen k.1) (Ev.ifn (by omega) o5)
 obtain ⟨b2,R2,c2⟩:=ref16_Rats_c (l:=cots) (by omega) (fun x hx=>(s5 x hx).sm)
 cases b2
 · have hn : ¬ ∀ x∈cots,RV x:=fun k=>absurd (c2.2 k) (by decide)
   exact Ev.bind (B1 fun k=>hn k.2) (Ev.ifp (by omega) (Ev.bind R2 (Ev.ifn (by decide) o5)))
 have vr:=c2.1 rfl
 obtain ⟨D1,D2⟩:=B2 hlen vr
 rcases Exact_both g1 g5 (by omega) (by omega) g6 g8 with ⟨e1,e2⟩ | ⟨f1,f2,f3,e1,e2⟩
 · exact Ev.bind (D1 e1) (Ev.ifp (by omega) (Ev.bind R2 (Ev.ifp rfl (Ev.bind e2 (Ev.ifn (show ¬ (1:Int)=0 by decide) (Ev.ifp rfl (Ev.ifp rfl (Ev.ifp rfl out))))))))
 · refine Ev.bind (D2 f1 e1) (Ev.ifp (by omega) (Ev.bind R2 (Ev.ifp rfl (Ev.bind e2 ?_))))
   by_cases he:(exS l (inn.map de) (forms.map de)).2.2=0
   · have E:=ref17_Back_c (inn:=inn.map de) (forms:=forms.map de) (outs:=outs) g1 f1 lo s5 hlen vr he
     refine Ev.ifp he (Ev.bind E (Ev.ifp rfl (Ev.ifp rfl (Ev.bind (a:=true) ?_ (Ev.ifp rfl out)))))
     obtain ⟨c,hc,hb,hl⟩:=bkS_Bc (inn:=inn.map de) (forms:=forms.map de) (cots:=cots.map de) (outs:=outs) g1 f1 ((list_Bd s5 vr).mono (by omega)) lo
     exact same_big hb hc hl
   · have eb:bkS l (inn.map de) (forms.map de) (cots.map de) outs=([],(exS l (inn.map de) (forms.map de)).2.1,(exS l (inn.map de) (forms.map de)).2.2):=by unfold bkS;rw [if_neg he]
     rw [eb]
     exact Ev.ifn he (Ev.ifp rfl (Ev.ifp rfl (Ev.ifp rfl out)))
end Go.Proofs.YtjocbnjpjihpnaaGreat.Pure
