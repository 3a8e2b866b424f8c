/- What the functions answer, over plain numbers. -/
import Derived.Test.YtjocbnjpjihpnaaGreatBB
import Derived.Test.YtjocbnjpjihpnaaGreatCCb
import Derived.Test.YtjocbnjpjihpnaaGreatFgradinelaw18long
import Derived.Test.YtjocbnjpjihpnaaGreatFgradinelaw18same
import Derived.Test.YtjocbnjpjihpnaaGreatFgradinelaw18BankActs
namespace Go.Proofs.YtjocbnjpjihpnaaGreat.M
open Go.RowKit Go.Proofs.YtjocbnjpjihpnaaGreat.P Go.Proofs.YtjocbnjpjihpnaaGreatW.AH Go.Proofs.YtjocbnjpjihpnaaGreatW.AX Go.Proofs.YtjocbnjpjihpnaaGreatW.Ad
set_option linter.unusedVariables false
theorem AJM (l:List V5) (i:Nat):Dp l (i:Int)=l.getD i zV:=by
 show l.getD ((i:Int)).toNat zV=_;rw[AUD]
theorem AKr {l:List V5} (hl:l.length<=1000000) (m:Int) (d:Nat) : ∀i:Nat,i+d=l.length-> ∃r,Ev (λk=>BR.l0 k l m (l.length:Int) i) r/\(r=false-> ∀j:Nat,i<=j->j<l.length->((l.getD j zV).1.2.1.length:Int)<=m/\((l.getD j zV).1.2.2.length:Int)<=m):=by
 induction d with
 | zero =>
   intro i h;exact⟨false,Ev.step (λk=>BR.l0.eq_2 ..) (Ev.AM (by omega) (Ev.same rfl)),λ_ j h1 h2=>by omega⟩
 | succ d ih =>
   intro i h;obtain⟨r1,h1,g1⟩:=rM (l.getD i zV).1.1 (l.getD i zV).1.2.1 (l.getD i zV).1.2.2 m;obtain⟨r2,h2,g2⟩:=ih (i+1) (by omega);have ew:wrap64 ((i:Int)+1)=((i+1:Nat):Int):=(by rw[AG (by omega) (by omega)];omega);refine⟨r1 || r2,Ev.step (λk=>BR.l0.eq_2 ..) (Ev.AK (by omega) (Ev.AK (by omega) (Ev.AK (by omega) ?_))),λhf=> ?_⟩
   · rw[AJM]
     refine Ev.AP h1 ?_;cases r1
     · refine Ev.AM (by decide) ?_
       rw[ew];exact h2
     · exact Ev.AK rfl (Ev.same rfl)
   · rw[Bool.or_eq_false_iff] at hf
     rw[AFO (show i<l.length by omega)];exact⟨g1.1 hf.1,g2 hf.2⟩
theorem AKs {l:List V5} {t:List Bool} (hl:l.length<=1000000) : ∃r,Ev (λk=>Dq.f k l t) r/\(r=false-> ∀v∈l,(v.1.2.1.length:Int)<=40/\(v.1.2.2.length:Int)<=40):=by
 obtain⟨r,h,g⟩:=AKr hl 40 l.length 0 (by omega);refine⟨r,Ev.bind h (Ev.same rfl),λhf v hv=> ?_⟩;obtain⟨j,hj,rfl⟩:=List.getElem_of_mem hv;have:=g hf j (by omega) hj;rw[g6 hj] at this;exact this
theorem AIE {v:V5} (h1:v.1.2.1.length<=1000000) (h2:v.1.2.2.length<=1000000):Ev (λk=>La.f k v.1.1 v.1.2.1 v.1.2.2 v.2.1 v.2.2 v.1.1 v.1.2.1 v.1.2.2 v.2.1 v.2.2) true:=by
 refine Ev.AK rfl (Ev.AK rfl (Ev.bind (Yn h1 h2) (Ev.same ?_)));rw[decide_eq_true rfl]
theorem AL4 {l:List V5} (hl:l.length<=1000000) (hs : ∀v∈l,v.1.2.1.length<=1000000/\v.1.2.2.length<=1000000) (d:Nat) : ∀i:Nat,i+d=l.length->Ev (λk=>FB.l0 k l l (l.length:Int) i) true:=by
 induction d with
 | zero =>
   intro i h;exact Ev.step (λk=>FB.l0.eq_2 ..) (Ev.AM (by omega) (Ev.same rfl))
 | succ d ih =>
   intro i h;have ew:wrap64 ((i:Int)+1)=((i+1:Nat):Int):=(by rw[AG (by omega) (by omega)];omega);have hm:l.getD i zV∈l:=(by rw[g6 (by omega)];exact AWS _);refine Ev.step (λk=>FB.l0.eq_2 ..) (Ev.AK (by omega) (Ev.AK (by omega) (Ev.AK (by omega) (Ev.AK (by omega) ?_))));rw[AJM];refine Ev.bind (AIE (hs _ hm).1 (hs _ hm).2) (Ev.AK rfl ?_);rw[ew];exact ih (i+1) (by omega)
theorem AL5 {l:List V5} (hl:l.length<=1000000) (hs : ∀v∈l,v.1.2.1.length<=1000000/\v.1.2.2.length<=1000000):Ev (λk=>FB.f k l l) true:=Ev.AK rfl (AL4 hl hs l.length 0 (by omega))
theorem AIF {l:List Bool} (hl:l.length<=1000000) (d:Nat) : ∀i:Nat,i+d=l.length->Ev (λk=>Aw.l0 k l l (l.length:Int) i) true:=by
 induction d with
 | zero =>
   intro i h;exact Ev.step (λk=>Aw.l0.eq_2 ..) (Ev.AM (by omega) (Ev.same rfl))
 | succ d ih =>
   intro i h;have ew:wrap64 ((i:Int)+1)=((i+1:Nat):Int):=(by rw[AG (by omega) (by omega)];omega);refine Ev.step (λk=>Aw.l0.eq_2 ..) (Ev.AK (by omega) (Ev.AK (by omega) (Ev.AK (by omega) (Ev.AK (by omega) (Ev.AM (by simp) ?_)))));rw[ew];exact ih (i+1) (by omega)
theorem ACC {l:List Bool} (hl:l.length<=1000000):Ev (λk=>Aw.f k l l) true:=Ev.AK rfl (AIF hl l.length 0 (by omega))
theorem ADP {c m:Int} {v:V5} (h:YB c m v) (h1:(v.1.2.1.length:Int)<=40) (h2:(v.1.2.2.length:Int)<=40):YB 2560 m v:=by
 rcases h with⟨rfl,q,hq,rfl⟩ | h
 · refine .inl ⟨rfl,q, ?_,rfl⟩
   rw[Yo] at h1 h2;dsimp only at h1 h2;have a:=GG (Sl (ab q.num));have b:=GG (Sl (q.den:Int));rw[AR (by unfold ab;split<;>omega)] at a;rw[AR (by omega)] at b;exact⟨hq.1,by omega,by omega⟩
 · exact .inr h
abbrev A6:=Int × Int × Int × Int × Int × Int
def zA:A6:=(0,0,0,0,0,0)
theorem AL6 (l:List A6) (i:Nat):FW l (i:Int)=l.getD i zA:=by
 show l.getD ((i:Int)).toNat zA=_;rw[AUD]
def AOk (a:A6):Prop:=g7 a.2.2.2.1/\g7 a.2.2.2.2.1/\U a.2.2.2.2.2
def Szs (l:List V5):Prop:= ∀v∈l,v.1.2.1.length<=1000000/\v.1.2.2.length<=1000000
theorem AFP {m e:Int} {v:V5} (h:Res m v e):v.1.2.1.length<=1000000/\v.1.2.2.length<=1000000:=by
 rcases h with⟨_,⟨_,q,hq,rfl⟩ | ⟨_,b,_,rfl⟩⟩ | ⟨_,rfl⟩
 · have:=AFQ hq (by omega)
   exact⟨AVG this.1 (by omega),AVG this.2 (by omega)⟩
 · exact⟨by simp,by simp⟩
 · exact⟨by simp[zV],by simp[zV]⟩
theorem AID {sq:Int->Int} (mz:fz sq) {m:Int} (hm:m=0\/m=1) {L:List A6} (hL:L.length<=60) (hw : ∀a∈L,AOk a) (hsame:Ev (λk=>At.f k) true) (d:Nat) : ∀(i:Nat) (met t:List Bool) (n e:Int) (tie:Bool) (l:List V5),i+d=L.length->l.length<=i->t.length<=i->met.length<=i->0<=n->n<=i->Szs l->(e=0-> ∀v∈l,YB 2560 m v) ->
 Ev (λk=>Ak.l0 k m L (L.length:Int) i m e n met tie l t l t m 0 [] [] met 0 n tie e) true:=by
 induction d with
 | zero =>
   intro i met t n e tie l h1 h2 h3 h4 h5 h6 h7 h8;refine Ev.step (λk=>Ak.l0.eq_2 ..) (Ev.AM (by omega) ?_);refine Ev.bind (a:=(m,m,0,[],[],met,0,n,tie,e)) ⟨0,λ_ _=>rfl⟩ (Ev.AK rfl ?_);refine Ev.bind (a:=([],m,0,[],[],met,0,n,tie,e)) (Ev.step (λk=>Ax.l0.eq_2 ..) (Ev.AM (by simp) (Ev.same rfl))) (Ev.AK rfl (Ev.bind hsame (Ev.same rfl)))
 | succ d ih =>
   intro i met t n e tie l h1 h2 h3 h4 h5 h6 h7 h8;have ew:wrap64 ((i:Int)+1)=((i+1:Nat):Int):=(by rw[AG (by omega) (by omega)];omega);have ha:AOk (L.getD i zA):=(by rw[g6 (by omega)];exact hw _ (AWS _));obtain⟨met',n',Fy,e',l',t',E1,E2,q1,q2,q3,q4,q5,q6⟩:=ADQ (K:=(L.getD i zA).1) (A:=(L.getD i zA).2.1) (B:=(L.getD i zA).2.2.1) (e:=e) (met:=met) (t:=t) (tie:=tie) (l:=l) hm (by omega) (by omega) (by omega) (show 0<=n/\n<=1000 by omega) ha.1 ha.2.1 ha.2.2 mz h8;have hsz:Szs l'/\l'.length<=l.length+1:=by
    rcases q5 with rfl | ⟨v,rfl,hr⟩
    · exact⟨h7,by omega⟩
    · refine⟨λu hu=> ?_,by simp⟩
      rcases AUj.1 hu with h | h
      · exact h7 u h
      · rw[AWA.1 h];exact AFP hr
   obtain⟨r,R1,R2⟩:=AKs (l:=l') (t:=t') (by omega);refine Ev.step (λk=>Ak.l0.eq_2 ..) (Ev.AK (by omega) (Ev.AK (by omega) (Ev.AK (by omega) ?_)));rw[AL6];refine Ev.bind E1 (Ev.bind E2 (Ev.bind (AL5 (l:=l') (by omega) hsz.1) (Ev.AK rfl (Ev.bind (ACC (l:=t') (by omega)) (Ev.AK rfl ?_)))));refine Ev.bind (a:=(e',m,0,[],[],met',0,n',Fy,e')) ⟨0,λ_ _=>rfl⟩ (Ev.AK rfl ?_);refine Ev.bind (a:=(n',m,0,[],[],met',0,n',Fy,e')) ⟨0,λ_ _=>rfl⟩ (Ev.AK rfl ?_);refine Ev.bind (a:=(Fy,m,0,[],[],met',0,n',Fy,e')) ⟨0,λ_ _=>rfl⟩ (Ev.AK rfl ?_);have M:Ev (λk=>Ga.f k m 0 [] [] met' 0 n' Fy e') (met',m,0,[],[],met',0,n',Fy,e'):=Ev.AK (by simp only[AWb];omega) (Ev.same rfl);refine Ev.bind M (Ev.bind (ACC (l:=met') (by omega)) (Ev.AK rfl (Ev.bind R1 ?_)));cases r
   · refine Ev.AM (by decide) ?_
     rw[ew];refine ih (i+1) met' t' n' e' Fy l' (by omega) (by omega) (by omega) (by omega) (by omega) (by omega) hsz.1 λhe v hv=> ?_
     have AFR:=R2 rfl v hv;rcases q5 with rfl | ⟨u,rfl,hr⟩
     · exact h8 (q6 he) v hv
     · rcases AUj.1 hv with h | h
       · exact h8 (q6 he) v h
       · rw[AWA.1 h] at AFR ⊢
         rcases hr with⟨_,h9⟩ | ⟨h9,_⟩
         · exact ADP h9 AFR.1 AFR.2
         · exact absurd he h9
   · exact Ev.AK rfl (Ev.bind hsame (Ev.same rfl))
theorem AFN {m:Int} (h0:0<=m) (h1:m<=2):Ev (λk=>J1.f k m []) (false,m,0,[],0,0,false,0):=Ev.AM (by omega) (Ev.AM (by omega) (Ev.AK (by simp) (Ev.same rfl)))
theorem ADR:Ev (λk=>DW.f k 0 0 [] [] [] 0 0 false 0 1 2) (wv (en ((1:Int)/(2:Int):Rat),0,0) (BS 0 [] 0 false 0)):=by
 obtain⟨a1,_⟩:=XQ (m:=0) (met:= []) (n:=0) (tie:=false) (p:=1) (q:=2) (by unfold g7;decide) (by unfold g7;decide);exact Ev.bind (GH _ _ _ _ _ _ _ _ _) (Ev.AM nf0 (Ev.bind (a1 (by decide)) (Ev.AK rfl (Ev.AK rfl (Ev.same rfl)))))
theorem AFS:((1:Int)/(2:Int):Rat)+((1:Int)/(2:Int):Rat)=((1:Int):Rat):=by
 have:(((1:Int):Rat)/((2:Int):Rat))+(((1:Int):Rat)/((2:Int):Rat))=((1:Int):Rat):=by decide +kernel
 exact this
theorem ADS:Ev (λk=>EM.f k 0 0 [] [] [] 0 0 false 0 (en ((1:Int)/(2:Int):Rat)).1 (en ((1:Int)/(2:Int):Rat)).2.1 (en ((1:Int)/(2:Int):Rat)).2.2 0 0 (en ((1:Int)/(2:Int):Rat)).1 (en ((1:Int)/(2:Int):Rat)).2.1 (en ((1:Int)/(2:Int):Rat)).2.2 0 0) (wv (en ((1:Int):Rat),0,0) (BS 0 [] 1 false 0)):=by
 have hB:Bd 128 ((1:Int)/(2:Int):Rat):=AAN (by unfold g7;decide) (by unfold g7;decide) (by decide);have w:wrap64 ((0:Int)+1)=1:=by rw[AG (by omega) (by omega)];rfl
 have A:=oZ hB hB (by omega) (by omega);rw[AFS] at A;refine Ev.bind (Ev.bind (GH _ _ _ _ _ _ _ _ _) (Ev.AM nf0 (Ev.AK rfl (Ev.bind (Ev.AM (show¬(4:Int)=3 by decide) (Ev.AK rfl (Ev.bind A (Ev.same rfl)))) (Ev.step (λk=>AO.j15.eq_2 ..) (Ev.AK rfl (Ev.same rfl))))))) (Ev.same (by dsimp only[BS,wv];rw[w]))
def in0:I6:=(1,0,0,false,[],[])
def in1:I6:=(1,1,0,false,[],[])
def in2:I6:=(6,0,1,false,[],[])
theorem wz0:wrap64 0=0:=by rw[AG (by omega) (by omega)]
theorem wz1:wrap64 1=1:=by rw[AG (by omega) (by omega)]
theorem wz2:wrap64 2=2:=by rw[AG (by omega) (by omega)]
theorem wz3:wrap64 3=3:=by rw[AG (by omega) (by omega)]
theorem AQR:Ev (λk=>CR.f k 2 0 [] [] [] 0 0 false 0 0 0 0) (false,[],[],0,0,2,1,[in0],[],[],0,0,false,0):=by
 refine⟨5,λk hk=> ?_⟩;simp[CR.f,Bh.f,CE.f,in0,wz0,wz1]
theorem AQS:Ev (λk=>CR.f k 2 1 [in0] [] [] 0 0 false 0 0 0 0) (false,[],[],0,1,2,2,[in0,in1],[],[],0,0,false,0):=by
 refine⟨5,λk hk=> ?_⟩;simp[CR.f,Bh.f,CE.f,in0,in1,wz1,wz2]
theorem AL7:Ev (λk=>Dm.f k 2 2 [in0,in1] [] [] 0 0 false 0 false [] [] 0 0 false [] [] 0 1) (false,[],[],0,2,2,2,[in0,in1,in2],[],[],0,1,false,0):=by
 refine⟨9,λk hk=> ?_⟩;obtain⟨j,rfl⟩ : ∃j,k=j+9:=⟨k-9,by omega⟩;simp[Dm.f,AO.f,Bh.f,Co.f,AO.j7,AO.j10,AO.j15,CE.f,in0,in1,in2,wz1,wz2]
theorem AL8:Ev (λk=>Ax.f k 2 2 [in0,in1,in2] [] [] 0 1 false 0) ([in0,in1,in2],2,2,[in0,in1,in2],[],[],0,1,false,0):=by
 refine⟨9,λk hk=> ?_⟩;obtain⟨j,rfl⟩ : ∃j,k=j+9:=⟨k-9,by omega⟩;simp[Ax.f,Ax.l0,Ij.f,in0,in1,in2,wz1,wz2,wz3]
theorem Ym:Ev (λk=>At.f k) true:=by
 have O:=Q2 (n:=1) (by omega) (by omega);rw[AFT] at O;have l:=AFQ (ji (p:=1) (by omega) (by omega)) (by omega);have S:=Yn (s:=(en ((1:Int):Rat)).1) (s':=(en ((1:Int):Rat)).1) (a:=(en ((1:Int):Rat)).2.1) (b:=(en ((1:Int):Rat)).2.2) (a':=(en ((1:Int):Rat)).2.1) (b':=(en ((1:Int):Rat)).2.2) (by omega) (by omega);rw[decide_eq_true rfl] at S;have ff : ¬(false=true):=by decide
 refine Ev.bind (AFN (m:=0) (by omega) (by omega)) (Ev.AM ff (Ev.bind (AFN (m:=2) (by omega) (by omega)) (Ev.AM ff ?_)));refine Ev.bind ADR (Ev.bind ADS (Ev.bind AQR (Ev.bind AQS (Ev.bind AL7 (Ev.bind AL8 (Ev.bind O (Ev.bind S (Ev.AK rfl ?_))))))));refine Ev.bind (a:=(1,0,0,[],[],[],0,1,false,0)) ⟨0,λ_ _=>rfl⟩ (Ev.AK rfl (Ev.AK rfl (Ev.AK (by decide) (Ev.AK rfl (Ev.AK rfl (Ev.AK (by decide) (Ev.same rfl)))))))
end Go.Proofs.YtjocbnjpjihpnaaGreat.M
