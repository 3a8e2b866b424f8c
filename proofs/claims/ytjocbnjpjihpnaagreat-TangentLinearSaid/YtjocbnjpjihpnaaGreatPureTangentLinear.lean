/- The tangents are linear in the directions: of the sum of one direction and so many times another one. -/
import Derived.Test.YtjocbnjpjihpnaaGreatFgradinelaw17same
import Derived.Test.YtjocbnjpjihpnaaGreatCCb
import Derived.Test.YtjocbnjpjihpnaaGreatFgradinelaw17TangentLinear
namespace Go.Proofs.YtjocbnjpjihpnaaGreat.Pure
open Go.RowKit Go.Proofs.YtjocbnjpjihpnaaGreat.P Go.Proofs.YtjocbnjpjihpnaaGreat.M Go.Proofs.YtjocbnjpjihpnaaGreatW.PrintWords Go.Proofs.YtjocbnjpjihpnaaGreatW.PrintLast Go.Proofs.YtjocbnjpjihpnaaGreatW.PrintMore Go.Proofs.YtjocbnjpjihpnaaGreatW.Abs
set_option linter.unusedVariables false

theorem Linear_l1 {a b c:List Rat} {m:Rat} (h:Lin m a b c) (la:a.length=c.length) (lb:b.length=c.length) (hl:c.length≤1000) (ba:BdL 4096 a) (bb:BdL 4096 b) (bc:BdL 4096 c) (bm:Bd 64 m) (d:Nat) : ∀ i:Nat,i+d=c.length →
 Ev (fun k=>gradinelaw17_TangentLinear.l1 k (a.map en) (b.map en) (c.map en) (c.length:Int) i (en m).1 (en m).2.1 (en m).2.2) true:=by
 induction d with
 | zero =>
   intro i hi
   exact Ev.step (fun k=>gradinelaw17_TangentLinear.l1.eq_2 ..) (Ev.ifn (by omega) (Ev.bind law17_same_c (Ev.same rfl)))
 | succ d ih =>
   intro i hi
   have la':=len_en a
   have lb':=len_en b
   have lc':=len_en c
   have ew:wrap64 ((i:Int)+1)=((i+1:Nat):Int):=by rw [w64_id (by omega) (by omega)];omega
   have b1:=gq_Bd (a:=(i:Int)) ba (by omega) (by omega)
   have b2:=gq_Bd (a:=(i:Int)) bb (by omega) (by omega)
   have b3:=gq_Bd (a:=(i:Int)) bc (by omega) (by omega)
   refine Ev.step (fun k=>gradinelaw17_TangentLinear.l1.eq_2 ..) (Ev.ifp (by omega) (Ev.ifp (by omega) (Ev.ifp (by omega) (Ev.ifp (by omega) ?_))))
   rw [rd_en (l:=a) (a:=(i:Int)) (by omega) (by omega),rd_en (l:=b) (a:=(i:Int)) (by omega) (by omega),rd_en (l:=c) (a:=(i:Int)) (by omega) (by omega),ew]
   clear ew
   refine Ev.bind (rat_Mul_e b2 bm (by omega) (by omega)) (Ev.bind (rat_Add_e b1 (Bd_mul b2 bm) (by omega) (by omega)) (Ev.ifp (by omega) (Ev.bind (rat_Same_e _ _ (Bd_add b1 (Bd_mul b2 bm)) (by omega)) (Ev.ifp (decide_eq_true (h.gq i).symm) (ih (i+1) (by omega))))))
theorem Linear_l0 {l:List I6} {inn dirs forms:List R3} {A B:List Rat} {m:Rat} (hAB:A.length=B.length) (hl:B.length≤1000) (hA:BdL 192 A) (hB:BdL 192 B) (bm:Bd 64 m) (ed:dirs=B.map en) (good:Ev (fun k=>gradinelaw17_TangentLinear.l0 k (A.map en) ((bth m A B).map en) (A.length:Int) (A.length:Int) l inn dirs forms (en m).1 (en m).2.1 (en m).2.2) true) (d:Nat) : ∀ i:Nat,i+d=A.length →
 Ev (fun k=>gradinelaw17_TangentLinear.l0 k (A.map en) (((bth m A B).take i).map en) (A.length:Int) i l inn dirs forms (en m).1 (en m).2.1 (en m).2.2) true:=by
 have lb:=bth_len (m:=m) hAB
 induction d with
 | zero =>
   intro i hi
   rw [List.take_of_length_le (by omega),show (i:Int)=A.length by omega]
   exact good
 | succ d ih =>
   intro i hi
   have la':=len_en A
   have lb':((dirs).length:Int)=B.length:=by rw [ed,len_en]
   have ew:wrap64 ((i:Int)+1)=((i+1:Nat):Int):=by rw [w64_id (by omega) (by omega)];omega
   have b1:=gq_Bd (a:=(i:Int)) hA (by omega) (by omega)
   have b2:=gq_Bd (a:=(i:Int)) hB (by omega) (by omega)
   refine Ev.step (fun k=>gradinelaw17_TangentLinear.l0.eq_2 ..) (Ev.ifp (by omega) (Ev.ifp (by omega) (Ev.ifp (by omega) ?_)))
   rw [rd_en (l:=A) (a:=(i:Int)) (by omega) (by omega),ew]
   clear ew
   refine Ev.bind (ref07_Mul_e b1 bm (by omega) (by omega)) (Ev.ifp (by omega) ?_)
   have rB:=rd_en (l:=B) (a:=(i:Int)) (by omega) (by omega)
   rw [← ed] at rB
   rw [rB]
   refine Ev.bind (ref07_Add_e (Bd_mul b1 bm) b2 (by omega) (by omega)) (Ev.ifp (by rw [List.length_map,List.length_take];omega) ?_)
   have:=ih (i+1) (by omega)
   rw [take_snoc (by omega),← map_snoc,bth_get hAB (by omega)] at this
   exact this
def TangentLinearS:Prop:= ∀ (x0:T RG.tCase) (x1:T RG.tRats) (x2:T (.int .i32)),RG.Wf RG.tCase x0→RG.Wf RG.tRats x1→RG.Wf (.int .i32) x2→ ∃ k,gradinelaw17_TangentLinear.f k x0.1 x0.2.1 x0.2.2.1 x0.2.2.2 x1 x2=some true
theorem TangentLinear:TangentLinearS:=by
 rintro ⟨l,inn,dirs,forms⟩ more (n:Int) ⟨h0,h1,h2,h3⟩ h4 h5
 obtain ⟨l0,w0⟩:=wf_prog h0
 obtain ⟨l1,w1⟩:=wf_rats h1
 obtain ⟨l2,w2⟩:=wf_rats h2
 obtain ⟨l3,w3⟩:=wf_rats h3
 obtain ⟨l4,w4⟩:=wf_rats h4
 have hn : -2147483648≤n∧n≤2147483647:=by
  have h5:(Lit.int .i32 n).wf=true:=h5
  simp [Lit.wf,Go.IntKind.min,IntKind.max,IntKind.bits,IntKind.signed] at h5
  omega
 clear h0 h1 h2 h3 h4 h5
 dsimp only at *
 refine Ev.rounds ?_
 have out:Ev (fun k=>(gradinelaw17_same.f k).bind fun t=>some t) true:=Ev.bind law17_same_c (Ev.same rfl)
 have o2:Ev (fun k=>gradinelaw17_TangentLinear.j2 k) true:=Ev.step (fun k=>gradinelaw17_TangentLinear.j2.eq_2 ..) out
 have o14:Ev (fun k=>gradinelaw17_TangentLinear.j14 k) true:=Ev.step (fun k=>gradinelaw17_TangentLinear.j14.eq_2 ..) out
 have l0:List.length l≤9223372036854775807:=by unfold maxLen at l0;omega
 obtain ⟨r,hr,g⟩:=few_c (l:=l) (inn:=inn) (dirs:=dirs) (forms:=forms) l0 w0 w1 w2 w3
 refine Ev.bind hr ?_
 cases r
 · exact Ev.ifn (by decide) o2
 obtain ⟨g1,g2,g3,g4,g5,g6,g7,g8⟩:=g rfl
 refine Ev.ifp rfl ?_
 by_cases hlen:List.length more=List.length dirs
 case neg=>exact Ev.ifn (by omega) o2
 refine Ev.ifp (by omega) ?_
 obtain ⟨r3,q3,g9⟩:=Longer_c (l:=more) (by omega) 3
 refine Ev.bind q3 ?_
 cases r3
 case true=>exact Ev.ifp rfl o2
 have s4 : ∀ x∈more,Sh3 x:=Sh3_of w4 (g9.1 rfl)
 refine Ev.ifn (by decide) ?_
 obtain ⟨b1,B1,c1⟩:=ref16_Rats_c (l:=more) (by omega) (fun x hx=>(s4 x hx).sm)
 refine Ev.bind B1 ?_
 cases b1
 · exact Ev.ifn (by decide) o2
 have v4:=c1.1 rfl
 obtain ⟨b2,B2,c2⟩:=ref16_Rats_c (l:=dirs) (by omega) (fun x hx=>(g7 x hx).sm)
 refine Ev.ifp rfl (Ev.bind B2 ?_)
 cases b2
 · exact Ev.ifn (by decide) o2
 have v2:=c2.1 rfl
 refine Ev.ifp rfl ?_
 rw [w64_id (by omega) (by omega)]
 refine Ev.bind (ref07_Of_c (n:=n) (by omega) (by omega)) ?_
 have em:Rq n 1=en (Rat.divInt n 1):=(en_divInt n (by decide)).symm
 have bm:Bd 64 (Rat.divInt n 1):=Bd_divInt ⟨by decide,bl_64 (by unfold ab;split<;>omega),by decide⟩
 rw [em]
 generalize Rat.divInt n 1=m at *
 have e4:(more.map de).map en=more:=list_en (fun x hx=>⟨(s4 x hx).1,(s4 x hx).2.1⟩) v4
 have e2:(dirs.map de).map en=dirs:=list_en (fun x hx=>⟨(g7 x hx).1,(g7 x hx).2.1⟩) v2
 have bA:BdL 192 (more.map de):=(list_Bd s4 v4).mono (by omega)
 have bB:BdL 192 (dirs.map de):=(list_Bd g7 v2).mono (by omega)
 have hAB:(more.map de).length=(dirs.map de).length:=by rw [List.length_map,List.length_map];exact hlen
 have lB:(dirs.map de).length≤1000:=by rw [List.length_map];omega
 have lAm:(more.map de).length=List.length more:=List.length_map ..
 have lbt:=bth_len (m:=m) hAB
 have bbt:=bth_Bd bm bA bB hAB
 obtain ⟨ra,A1,A2⟩:=Of_some g1 g5 (by omega) (by omega) (by omega) g6 (dirs_ok g7) g8 (inn:=inn) (dirs:=dirs) (forms:=forms)
 obtain ⟨rb',C1,C2⟩:=Of_some g1 g5 (by omega) (by omega) (by omega) g6 (dirs_ok s4) g8 (inn:=inn) (dirs:=more) (forms:=forms)
 obtain ⟨rc,D1,D2⟩:=Of_some g1 g5 (by omega) (by rw [List.length_map];omega) (by omega) g6 (by
  intro x hx
  obtain ⟨y,hy,rfl⟩:=List.mem_map.1 hx
  exact ⟨en_SmR (bbt y hy) (by omega),fun _=>by rw [de_en];exact bbt y hy⟩) g8 (inn:=inn) (dirs:=(bth m (more.map de) (dirs.map de)).map en) (forms:=forms)
 rw [map_de_en] at D2
 have fin:Ev (fun k=>gradinelaw17_TangentLinear.l0 k ((more.map de).map en) ((bth m (more.map de) (dirs.map de)).map en) ((more.map de).length:Int) ((more.map de).length:Int) l inn dirs forms (en m).1 (en m).2.1 (en m).2.2) true:=by
  refine Ev.step (fun k=>gradinelaw17_TangentLinear.l0.eq_2 ..) (Ev.ifn (by omega) (Ev.bind A1 ?_))
  rw [e4]
  refine Ev.bind C1 (Ev.bind D1 ?_)
  by_cases z1:ra.2.2.2=0
  case neg=>exact Ev.ifn z1 o14
  by_cases z2:rb'.2.2.2=0
  case neg=>exact Ev.ifp z1 (Ev.ifn z2 o14)
  by_cases z3:rc.2.2.2=0
  case neg=>exact Ev.ifp z1 (Ev.ifp z2 (Ev.ifn z3 o14))
  obtain ⟨rfl,y1⟩:=A2 z1
  obtain ⟨rfl,y2⟩:=C2 z2
  obtain ⟨rfl,y3⟩:=D2 z3
  obtain ⟨p1,p2,p3⟩:=tOf_ok y1
  obtain ⟨q1,q2,q3'⟩:=tOf_ok y2
  obtain ⟨s1,s2,s3⟩:=tOf_ok y3
  have L:=tal_lin (bth_lin (m:=m) hAB) l 0 [] [] [] (fun n=>by show (0:Rat)=0+0*m;grind) rfl rfl p1 q1 s1
  rw [← p2,← q2,← s2] at L
  obtain ⟨_,t1,_,_⟩:=tOf_lists l (inn.map de) (dirs.map de) (forms.map de)
  obtain ⟨_,t2,_,_⟩:=tOf_lists l (inn.map de) (more.map de) (forms.map de)
  obtain ⟨_,t3,_,_⟩:=tOf_lists l (inn.map de) (bth m (more.map de) (dirs.map de)) (forms.map de)
  refine Ev.ifp z1 (Ev.ifp z2 (Ev.ifp z3 ?_))
  unfold tOO
  dsimp only
  generalize (tOf l (inn.map de) (dirs.map de) (forms.map de)).2.1=X at *
  generalize (tOf l (inn.map de) (more.map de) (forms.map de)).2.1=Y at *
  generalize (tOf l (inn.map de) (bth m (more.map de) (dirs.map de)) (forms.map de)).2.1=Z at *
  have G:=Linear_l1 L (by omega) (by omega) (by omega) t1 t2 t3 bm Z.length 0 (by omega)
  rw [len_en,len_en,len_en,show (X.length:Int)=Z.length by omega]
  exact Ev.ifp (by omega) (Ev.ifp (by omega) (Ev.ifp (by omega) G))
 have:=Linear_l0 (l:=l) (inn:=inn) (dirs:=dirs) (forms:=forms) hAB lB bA bB bm e2.symm fin (more.map de).length 0 (by omega)
 rw [List.take_zero,e4,lAm] at this
 exact this
end Go.Proofs.YtjocbnjpjihpnaaGreat.Pure
