/- Functions of one package as Lean functions, and walks: written by a program for this claim. -/
import Derived.Test.YtjocbnjpjihpnaaGreatFbase
import Derived.Test.YtjocbnjpjihpnaaGreatFsxbase
namespace Go.Proofs.YtjocbnjpjihpnaaGreat.P
open Go.RowKit Go.Proofs.YtjocbnjpjihpnaaGreatW.AH Go.Proofs.YtjocbnjpjihpnaaGreatW.AX Go.Proofs.YtjocbnjpjihpnaaGreatW.Ad
attribute [local go_sem] iV iW ABq ABr oC oD uk um
set_option linter.unusedVariables false
set_option linter.unusedSimpArgs false
/-! ### bank_Bank_fails: function by hand -/
def Bh.f (k:Nat) (Ab Ae:Int) (Af:List (Int × Int × Int × Bool × (List Int) × List Int)) (Ah Ai:List Bool) (BH BK:Int) (BL:Bool) (BJ:Int):Option (Bool × Int × Int × List (Int × Int × Int × Bool × (List Int) × List Int) × List Bool × List Bool × Int × Int × Bool × Int):=some ((!(BJ==0)),Ab,Ae,Af,Ah,Ai,BH,BK,BL,BJ)
/-! ### bank_Bank_Fail: function by hand -/
def BU.f (k:Nat) (Ab Ae:Int) (Af:List (Int × Int × Int × Bool × (List Int) × List Int)) (Ah Ai:List Bool) (BH BK:Int) (BL:Bool) (BJ a1:Int):Option (Int × Int × List (Int × Int × Int × Bool × (List Int) × List Int) × List Bool × List Bool × Int × Int × Bool × Int):=if BJ=0 then(some (Ab,Ae,Af,Ah,Ai,BH,BK,BL,a1)) else(some (Ab,Ae,Af,Ah,Ai,BH,BK,BL,BJ))
/-! ### bank_Bank_write: function by hand -/
def CE.f (k:Nat) (Ab Ae:Int) (Af:List (Int × Int × Int × Bool × (List Int) × List Int)) (Ah Ai:List Bool) (BH BK:Int) (BL:Bool) (BJ D6 Jo JT:Int) (LL:Bool) (ML AL9:List Int):Option (Bool × List Int × List Int × Int × Int × Int × Int × List (Int × Int × Int × Bool × (List Int) × List Int) × List Bool × List Bool × Int × Int × Bool × Int):=if(Af.length:Int)>=65536 then((BU.f k Ab Ae Af Ah Ai BH BK BL BJ 13).bind λAW=>(some (false,([]:List Int),([]:List Int),0,0,AW.1,AW.2.1,AW.2.2.1,AW.2.2.2.1,AW.2.2.2.2.1,AW.2.2.2.2.2.1,AW.2.2.2.2.2.2.1,AW.2.2.2.2.2.2.2.1,AW.2.2.2.2.2.2.2.2))) else(if(Af.length+1)*80<=140737488355328 then(some (false,([]:List Int),([]:List Int),0,(wrap64 (((Af++ [(D6,(Jo,(JT,(LL,(ML,AL9)))))]).length:Int)-1)),Ab,Ae,(Af++ [(D6,(Jo,(JT,(LL,(ML,AL9)))))]),Ah,Ai,BH,BK,BL,BJ)) else none)
/-! ### bank_Bank_there: function by hand -/
def Co.f (k:Nat) (Ab Ae:Int) (Af:List (Int × Int × Int × Bool × (List Int) × List Int)) (Ah Ai:List Bool) (BH BK:Int) (BL:Bool) (BJ:Int) (D6:Bool) (Jo JT:List Int) (LL ML:Int):Option (Bool × Int × Int × List (Int × Int × Int × Bool × (List Int) × List Int) × List Bool × List Bool × Int × Int × Bool × Int):=if ML<0 then((BU.f k Ab Ae Af Ah Ai BH BK BL BJ 1).bind λAW=>(some (false,AW.1,AW.2.1,AW.2.2.1,AW.2.2.2.1,AW.2.2.2.2.1,AW.2.2.2.2.2.1,AW.2.2.2.2.2.2.1,AW.2.2.2.2.2.2.2.1,AW.2.2.2.2.2.2.2.2))) else(if ML>=(Af.length:Int) then((BU.f k Ab Ae Af Ah Ai BH BK BL BJ 1).bind λCQ=>(some (false,CQ.1,CQ.2.1,CQ.2.2.1,CQ.2.2.2.1,CQ.2.2.2.2.1,CQ.2.2.2.2.2.1,CQ.2.2.2.2.2.2.1,CQ.2.2.2.2.2.2.2.1,CQ.2.2.2.2.2.2.2.2))) else(some (true,Ab,Ae,Af,Ah,Ai,BH,BK,BL,BJ)))
/-! ### nat_size: function 192 -/
def Bm.l0:Nat->List Int->Int->Option (Int)
 | 0,_,_=>none
 | k+1,x0,x3=>if x3>0 then(if 0<=(wrap64 (x3-1)) then(if(wrap64 (x3-1))<(x0.length:Int) then(if(rd x0 (wrap64 (x3-1)))=0 then(Bm.l0 k x0 (wrap64 (x3-1))) else(some x3)) else(none)) else(none)) else(some x3)
def Bm.f (k:Nat) (l0:List Int):Option (Int):=Bm.l0 k l0 (l0.length:Int)
set_option maxHeartbeats 8000000 in
set_option maxRecDepth 100000 in
theorem Bm.calls (k:Nat) (A0:Option Addr) (c0:Nat) (l0:List Int) (r:Int) (w:World) (Yc:Kd.C (Kd.int .u64) w A0 l0.length l0) (hc0:l0.length<=c0) (h:Bm.f k l0=some r) :
 Calls Tryz.prog 192 #[.slice A0 l0.length c0] w λe w'=>e= .returned (.int .i64 r)/\HW w w':=by
 have HR0:=B0.mk Yc;have HC0:=B0.mk hc0;clear Yc hc0;have H:(Bm.l0 k l0 (l0.length:Int))=some r:=h;clear h;have H':=B0.mk H;clear H
 go_enter Tryz.func192,Tryz.ntmps192
 go_wp2
 go_loopg [3] k (λkq v3 w'=> ∃(rP:Int),v3= .int .i64 rP/\B0 (Bm.l0 kq l0 rP=some r)/\B0 (kq<=k)/\HW w w')
 case atStart=>exact⟨((l0.length:Int)),(by first | rfl | (simp;done) | (simp[*];done)),H',⟨AUN _⟩,by repeat (first | exact HW.refl _ | apply HW.step)⟩
 case round =>
  clear H'
  try clear c1
  obtain⟨rP,rfl,HA,HK1,⟨m1,rfl⟩⟩:=hrel;cases gk with
  | zero=>exact absurd HA.out (by simp[Bm.l0])
  | succ k1 =>
    have H:=HA.out;clear HA;simp only[Bm.l0] at H;by_cases c2:rP>0
    · rw[if_pos c2] at H
      have AQU:decide (0<rP)=true:=decide_eq_true c2;clear c2;obtain⟨TN,jk⟩ : ∃j_:Int,(wrap64 (rP-1))=j_:=⟨_,rfl⟩
      replace H:(if 0<=(TN) then(if(TN)<(l0.length:Int) then(if(rd l0 (TN))=0 then(Bm.l0 k1 l0 TN) else(some rP)) else(none)) else(none))=some r:=by first | (rw[jk] at H;exact H) | (simp only[jk] at H ⊢;exact H)
      have ATT:(IntKind.i64.wrap (rP-1))=TN:=(uf _).trans jk;by_cases c4:0<=(TN)
      · rw[if_pos c4] at H
        have AQV:decide (0<=(TN))=true:=decide_eq_true c4;clear c4;by_cases c5:(TN)<(l0.length:Int)
        · rw[if_pos c5] at H
          have AMA:decide ((TN)<(l0.length:Int))=true:=decide_eq_true c5;clear c5;by_cases c6:(rd l0 (TN))=0
          · rw[if_pos c6] at H
            have AKy:((rd l0 (TN))==0)=true:=beq_iff_eq.mpr c6;have AKz:((rd l0 (TN)) !=0)=false:=bne_eq_false_iff_eq.mpr c6;clear c6;have H':=B0.mk H;clear H;have AAO:0<=((TN):Int):=of_decide_eq_true (by first | (with_reducible assumption) | assumption);have AAP:(TN)<(l0.length:Int):=of_decide_eq_true (by first | (with_reducible assumption) | assumption);obtain⟨AMB,AK0,AIH⟩:=Kd.zR HR0.out (TN) AAO AAP;cases AK0
            replace AAO:=eq_true AAO
            replace AAP:=eq_true AAP
            go_wp2
            go_roundg k1
            case measure=>have:=HK1.out;omega
            case rel=>exact⟨(TN),(by first | rfl | (simp;done) | (simp only[<-jk]<;>(first | rfl | simp)) | (simp[*];done)),H',⟨by have:=HK1.out;omega⟩,by repeat (first | exact HW.refl _ | apply HW.step)⟩
          · rw[if_neg c6] at H
            have AKy:((rd l0 (TN))==0)=false:=beq_eq_false_iff_ne.mpr c6;have AKz:((rd l0 (TN)) !=0)=true:=bne_iff_ne.mpr c6;obtain rfl:=AWD H;have AAO:0<=((TN):Int):=of_decide_eq_true (by first | (with_reducible assumption) | assumption);have AAP:(TN)<(l0.length:Int):=of_decide_eq_true (by first | (with_reducible assumption) | assumption);obtain⟨AMB,AK0,AIH⟩:=Kd.zR HR0.out (TN) AAO AAP;cases AK0
            replace AAO:=eq_true AAO
            replace AAP:=eq_true AAP
            go_wp2
            go_ret
            exact⟨by first | rfl | (simp;done) | (simp only[<-jk]<;>(first | rfl | simp)) | (simp[*];done),by repeat (first | exact HW.refl _ | apply HW.step)⟩
        · rw[if_neg c5] at H
          exact absurd H (by simp)
      · rw[if_neg c4] at H
        exact absurd H (by simp)
    · rw[if_neg c2] at H
      have AQU:decide (0<rP)=false:=decide_eq_false c2;clear c2;obtain rfl:=AWD H
      go_wp2
      go_ret
      exact⟨by first | rfl | (simp;done) | (simp[*];done),by repeat (first | exact HW.refl _ | apply HW.step)⟩
/-! ### nat_Trim: function 187 -/
def Ay.f (k:Nat) (l0:List Int):Option (List Int):=(some (([]:List Int):List Int)).bind λbD=>((Bm.f k l0).bind λt117=>(if 0<=t117 then(if t117<=(l0.length:Int) then(if bD.length+(l0.take (t117:Int).toNat).length<17592186044416 then(some (bD++(l0.take (t117:Int).toNat))) else(none)) else(none)) else(none)))
set_option maxHeartbeats 8000000 in
set_option maxRecDepth 100000 in
theorem Ay.calls (k:Nat) (A0:Option Addr) (c0:Nat) (l0 r:List Int) (w:World) (Yc:Kd.C (Kd.int .u64) w A0 l0.length l0) (hc0:l0.length<=c0) (h:Ay.f k l0=some r) :
 Calls Tryz.prog 187 #[.slice A0 l0.length c0] w λe w'=> ∃v0_:Value,e= .returned (v0_)/\Kd.R (Kd.int .u64) 73 w' w.heap.size (λ_=>True) v0_ r/\Below w.heap.size w w':=by
 have HR0:=B0.mk Yc;have HC0:=B0.mk hc0;clear Yc hc0;have HB:=B0.mk (Below.refl w.heap.size w);have H:((some (([]:List Int):List Int)).bind λbD=>((Bm.f k l0).bind λt117=>(if 0<=t117 then(if t117<=(l0.length:Int) then(if bD.length+(l0.take (t117:Int).toNat).length<17592186044416 then(some (bD++(l0.take (t117:Int).toNat))) else(none)) else(none)) else(none))))=some r:=h;clear h;obtain⟨bD,wC⟩ : ∃y_:List Int,y_=(([]:List Int)):=⟨_,rfl⟩
 replace H:((Bm.f k l0).bind λt117=>(if 0<=t117 then(if t117<=(l0.length:Int) then(if bD.length+(l0.take (t117:Int).toNat).length<17592186044416 then(some (bD++(l0.take (t117:Int).toNat))) else(none)) else(none)) else(none)))=some r:=by first | (rw[wC];with_reducible exact H) | (have rQ:=(AVJ _ _).symm.trans H;rw[wC];with_reducible exact rQ) | (have rQ:=(AVJ _ _).symm.trans H;with_reducible exact rQ) | with_reducible exact H | (rw[wC];exact H) | exact H
 have AJN:=B0.mk wC;clear wC
 replace H:=AVj.mp H
 obtain⟨t117,A20,H⟩:=H
 replace H:(if 0<=t117 then(if t117<=(l0.length:Int) then(if bD.length+(l0.take (t117:Int).toNat).length<17592186044416 then(some (bD++(l0.take (t117:Int).toNat))) else(none)) else(none)) else(none))=some r:=H
 have A2:=B0.mk A20;clear A20;by_cases c3:0<=t117
 · rw[if_pos c3] at H
   have ATn:=eq_true c3;have ATo:decide (0<=t117)=true:=decide_eq_true c3;clear c3;by_cases c4:t117<=(l0.length:Int)
   · rw[if_pos c4] at H
     have AQV:=eq_true c4;have ATp:decide (t117<=(l0.length:Int))=true:=decide_eq_true c4;clear c4;by_cases c5:bD.length+(l0.take (t117:Int).toNat).length<17592186044416
     · rw[if_pos c5] at H
       have AQW:=B0.mk c5;clear c5;obtain⟨AQX,wD⟩ : ∃y_:List Int,y_=(bD++(l0.take (t117:Int).toNat)):=⟨_,rfl⟩
       replace H:(some AQX)=some r:=by first | (rw[wD];with_reducible exact H) | (have rQ:=(AVJ _ _).symm.trans H;rw[wD];with_reducible exact rQ) | (have rQ:=(AVJ _ _).symm.trans H;with_reducible exact rQ) | with_reducible exact H | (rw[wD];exact H) | exact H
       have AMC:=B0.mk wD;clear wD;obtain rfl:=AWD H
       go_enter Tryz.func187,Tryz.ntmps187
       go_wp2_with (first | ((with_reducible refine ud (N:=3) rfl ?_);refine Kd.ALj (Kd.int .u64) _ 73 ?hg (N:=3) ?hd (xs:=([]:List Int)) (inner:= []) (ok:=λ_=>True) (XE:=λ_=>True) ?hr ?hp (λ_ hk=>hk) trivial (Below.refl _ _) (AUN _) (by simp) ?_;(case hd=>rfl);(case hg=>rfl);(case hr=>first | (go_simp;done) | (go_simp;rfl));(case hp=>exact(B9.none _ _));intro AQY w6 ho7 hb hg_ AFU;clear hg_ AFU;(first | rw[<-AJN.out] at ho7 | (simp only[Int.reduceToNat] at ho7;rw[<-AJN.out] at ho7));have wE:=B0.mk (Kd.gh ho7 (LR (by repeat (first | (with_reducible first | exact HB.out | apply BX | apply A7 | apply B8) | exact HB.out))));have wF:=B0.mk (XF (by repeat (first | (with_reducible first | exact HB.out | apply BX | apply A7 | apply B8) | exact HB.out)) hb);clear HB;have AJO:=wE;have HB:=wF;clear wE wF;clear hb ho7) | ((with_reducible refine cO (f:=192) rfl ?_);refine AEO (some 6) rfl rfl Tryz.func192 (by kernel_rfl) rfl #[.slice A0 l0.length c0] rfl (by(try simp only[AWs,AUr,AW9]);first | done | rfl | (simp only[AUn,AUJ];rfl) | (simp only[*];done)) ?_;(with_reducible refine(Bm.calls k _ _ l0 t117 _ ?AFV ?AFW A2.out).mono ?_);(case AFV=>repeat (first | exact(Kd.Qn HR0.out HB.out) | (with_reducible refine Kd.YE ?_ _) | (with_reducible refine Kd.YF ?_ _) | (with_reducible refine Kd.iQ ?_)));(case AFW=>exact HC0.out);rintro e w' ⟨rfl,⟨nd,rfl⟩⟩;refine⟨_,rfl, ?_⟩;obtain⟨i08,AMD,_,AME,_⟩:=info_parts jf;obtain⟨ATU,hA8,hC8⟩:=m6 (P:=Tryz.prog) (Value.int .u64) 0 43 73 .i64 Tryz.underlying43 AMD AME A0 c0 l0 t117 (of_decide_eq_true (by first | (with_reducible assumption) | assumption)) (of_decide_eq_true (by first | (with_reducible assumption) | assumption)) HC0.out;have AJP:=B0.mk (Kd.zQ (h1:=λ_=>rfl) (hA8 _ (Kd.iP HR0.out)));have ATV:=B0.mk hC8;clear hA8 hC8 AMD AME) | ((with_reducible refine Qp (b:= .append) (xs:= #[.tmp 3, .tmp 7]) rfl ?_);at_builtin;refine Kd.m7 (Kd.int .u64) (w0:=w) w.heap.size rfl (.tmp 3) (.tmp 7) 43 73 (.int .u64 0) 8 rfl Tryz.underlying43 jf rfl (by decide) (by omega) AQY bD (l0.take (t117:Int).toNat) _ _ _ (λ_=>True) (λ_=>False) rfl rfl ?aO ?aR (λ_ _ h=>h) (λ_ h=>h.elim) ?aF ?aB ?aS ?aL ?_;(case aR=>first | (refine qO (show(l0.take (t117:Int).toNat).length=t117.toNat from(by rw[AUJ];have h_:(t117:Int)<=(l0.length:Int):=of_decide_eq_true (by first | (with_reducible assumption) | assumption);omega)) ?_;repeat (first | exact(Kd.Qn AJP.out (by repeat (first | (with_reducible first | exact HB.out | apply BX | apply A7 | apply B8) | exact HB.out))) | (with_reducible refine Kd.YE ?_ _) | (with_reducible refine Kd.YF ?_ _) | (with_reducible refine Kd.iQ ?_))) | (repeat (first | exact(Kd.Qn AJP.out (by repeat (first | (with_reducible first | exact HB.out | apply BX | apply A7 | apply B8) | exact HB.out))) | (with_reducible refine Kd.YE ?_ _) | (with_reducible refine Kd.YF ?_ _) | (with_reducible refine Kd.iQ ?_))));(case aB=>exact(by repeat (first | (with_reducible first | exact HB.out | apply BX | apply A7 | apply B8) | exact HB.out)));(case aF=>exact(λ_ _=>trivial));(case aO=>exact(by(with_reducible repeat (first | apply Kd.Lx | apply Kd.Ly | apply Kd.Pg));exact AJO.out));(case aS=>exact(LR (by repeat (first | (with_reducible first | exact HB.out | apply BX | apply A7 | apply B8) | exact HB.out))));(case aL=>have:=AQW.out;have ATq:=(show(l0.take (t117:Int).toNat).length=t117.toNat from(by rw[AUJ];have h_:(t117:Int)<=(l0.length:Int):=of_decide_eq_true (by first | (with_reducible assumption) | assumption);omega));omega);intro ATr w9 ho hb hg Pe;rw[<-AMC.out] at ho;have wE:=B0.mk (hb);have wF:=B0.mk (ho);clear HB;clear AJO;have HB:=wE;have AMF:=wF;clear wE wF;clear ho hb hg Pe))
       go_ret
       exact⟨_,by first | rfl | (simp[LS,LU]<;>rfl) | (simp[*,LS,LU]<;>rfl),by(with_reducible repeat (first | apply Kd.Lx | apply Kd.Ly | apply Kd.Pg));exact AMF.out,by repeat (first | (with_reducible first | exact HB.out | apply BX | apply A7 | apply B8) | exact HB.out)⟩
     · rw[if_neg c5] at H
       exact absurd H (by simp)
   · rw[if_neg c4] at H
     exact absurd H (by simp)
 · rw[if_neg c3] at H
   exact absurd H (by simp)
/-! ### nat_Of: function 113 -/
def Kw.f (k:Nat) (a0:Int):Option (List Int):=(Ay.f k (([a0]:List Int))).bind λAQZ=>(some AQZ)
/-! ### nat_Cmp: function 153 -/
def El.l0:Nat->List Int->List Int->Int->Option (Int)
 | 0,_,_,_=>none
 | k+1,x0,x1,x7=>if x7>=0 then(if 0<=x7 then(if x7<(x0.length:Int) then(if x7<(x1.length:Int) then(if(rd x0 x7)<(rd x1 x7) then(some (-1)) else(if(rd x0 x7)>(rd x1 x7) then(some 1) else(El.l0 k x0 x1 (wrap64 (x7-1))))) else(none)) else(none)) else(none)) else(some 0)
def El.f (k:Nat) (l0 l1:List Int):Option (Int):=(Bm.f k l0).bind λAK1=>((Bm.f k l1).bind λAMG=>(if AK1=AMG then(El.l0 k l0 l1 (wrap64 (AK1-1))) else(if AK1<AMG then(some (-1)) else(some 1))))
/-! ### limb_Len: function 87 -/
def BV.l0:Nat->Int->Int->Int->Option (Int)
 | 0,_,_,_=>none
 | k+1,x0,x3,x4=>if x4>0 then(if 0<=x4 then(if(shr .u64 x0 x4)>0 then(BV.l0 k (shr .u64 x0 x4) (wrap64 (x3+x4)) (x4/2)) else(BV.l0 k x0 x3 (x4/2))) else(none)) else(some (wrap64 (x3+(wrap64 (x0)))))
def BV.f (k:Nat) (a0:Int):Option (Int):=BV.l0 k a0 0 32
/-! ### limb_digit: function 150 -/
mutual
def Bu.l0:Nat->Int->Int->Int->Int->Int->Int->Int->Option (Int × Int)
 | 0,_,_,_,_,_,_,_=>none
 | k+1,x0,x1,x2,x8,x9,Jl,Ik=>if Jl>4294967295 then(Bu.j1 k x0 x1 x2 x8 x9 Jl Ik true) else(Bu.j1 k x0 x1 x2 x8 x9 Jl Ik (decide ((IntKind.u64.wrap (Jl*x8))>(Go.bits .or .u64 (IntKind.u64.wrap (Ik*4294967296)) x1))))
def Bu.j1:Nat->Int->Int->Int->Int->Int->Int->Int->Bool->Option (Int × Int)
 | 0,_,_,_,_,_,_,_,_=>none
 | k+1,x0,x1,x2,x8,x9,Jl,Ik,x33=>if x33=true then(if(IntKind.u64.wrap (Ik+x9))>4294967295 then(some (IntKind.u64.wrap (Jl-1),IntKind.u64.wrap ((IntKind.u64.wrap ((IntKind.u64.wrap (x0*4294967296))+x1))-(IntKind.u64.wrap ((IntKind.u64.wrap (Jl-1))*x2))))) else(Bu.l0 k x0 x1 x2 x8 x9 (IntKind.u64.wrap (Jl-1)) (IntKind.u64.wrap (Ik+x9)))) else(some (Jl,IntKind.u64.wrap ((IntKind.u64.wrap ((IntKind.u64.wrap (x0*4294967296))+x1))-(IntKind.u64.wrap (Jl*x2)))))
end
def Bu.f (k:Nat) (a0 a1 a2:Int):Option (Int × Int):=if(a2/4294967296)=0 then(none) else(Bu.l0 k a0 a1 a2 (Go.bits .and .u64 a2 4294967295) (a2/4294967296) (IntKind.u64.wrap (Int.tdiv a0 (a2/4294967296))) (Int.tmod a0 (a2/4294967296)))
/-! ### limb_Div: function 122 -/
def Il.f (k:Nat) (a0 a1 a2:Int):Option (Int × Int × Bool):=if a0>=a2 then(some (0,0,false)) else((BV.f k a2).bind λrR=>(if 0<=(wrap64 (64-rR)) then(if 0<=(wrap64 (63-(wrap64 (64-rR)))) then((Bu.f k (Go.bits .or .u64 (shl .u64 a0 (wrap64 (64-rR))) (shr .u64 (a1/2) (wrap64 (63-(wrap64 (64-rR)))))) ((shl .u64 a1 (wrap64 (64-rR)))/4294967296) (shl .u64 a2 (wrap64 (64-rR)))).bind λAJQ=>((Bu.f k AJQ.2 (Go.bits .and .u64 (shl .u64 a1 (wrap64 (64-rR))) 4294967295) (shl .u64 a2 (wrap64 (64-rR)))).bind λAJR=>(some (Go.bits .or .u64 (IntKind.u64.wrap (AJQ.1*4294967296)) AJR.1,shr .u64 AJR.2 (wrap64 (64-rR)),true)))) else(none)) else(none)))
/-! ### quot_Word: function 154 -/
def DS.l0:Nat->List Int->Int->List Int->Int->Int->Option (List Int × Int × Bool)
 | 0,_,_,_,_,_=>none
 | k+1,x0,x1,x7,x8,x9=>if x9>=0 then(if 0<=x9 then(if x9<(x0.length:Int) then((Il.f k x8 (rd x0 x9) x1).bind λAJS=>(if x9<(x7.length:Int) then(DS.l0 k x0 x1 (x7.set (x9:Int).toNat AJS.1) AJS.2.1 (wrap64 (x9-1))) else(none))) else(none)) else(none)) else((Ay.f k x7).bind λAQa=>(some (AQa,x8,true)))
def DS.f (k:Nat) (l0:List Int) (a1:Int):Option (List Int × Int × Bool):=if a1=0 then(some (([]:List Int),0,false)) else(if 0<=(l0.length:Int) then(if((l0.length:Int):Int).toNat<=35184372088832 then(DS.l0 k l0 a1 (List.replicate ((l0.length:Int):Int).toNat 0) 0 (wrap64 ((l0.length:Int)-1))) else(none)) else(none))
/-! ### nat_Shl: function 210 -/
def CC.l0:Nat->Int->List Int->Int->List Int->Int->Int->Option (List Int)
 | 0,_,_,_,_,_,_=>none
 | k+1,x6,x7,x8,x25,x26,x27=>if x27<x26 then(if 0<=x27 then(if x27<(x25.length:Int) then(if x7.length<17592186044416 then(CC.l0 k x6 (x7++ [Go.bits .or .u64 (IntKind.u64.wrap ((rd x25 x27)*2^x6.toNat)) x8]) (((rd x25 x27)/2)/2^(63-x6).toNat) x25 x26 (wrap64 (x27+1))) else(none)) else(none)) else(none)) else(if x7.length<17592186044416 then((Ay.f k (x7++ [x8])).bind λt163=>(some t163)) else(none))
def CC.f (k:Nat) (l0:List Int) (a1:Int):Option (List Int):=if((mn (mx a1 0) 65536)/64)>=0 then(if((mn (mx a1 0) 65536)/64)<=(wrap64 ((wrap64 (((mn (mx a1 0) 65536)/64)+(l0.length:Int)))+1)) then(if(wrap64 ((wrap64 (((mn (mx a1 0) 65536)/64)+(l0.length:Int)))+1):Int).toNat<=35184372088832 then(CC.l0 k ((mn (mx a1 0) 65536)%64) (List.replicate ((mn (mx a1 0) 65536)/64:Int).toNat 0) 0 l0 (l0.length:Int) 0) else(none)) else(none)) else(none)
set_option maxHeartbeats 8000000 in
set_option maxRecDepth 100000 in
theorem CC.calls (k:Nat) (A0:Option Addr) (c0:Nat) (l0:List Int) (a1:Int) (r:List Int) (w:World) (Yc:Kd.C (Kd.int .u64) w A0 l0.length l0) (hc0:l0.length<=c0) (h:CC.f k l0 a1=some r) :
 Calls Tryz.prog 210 #[.slice A0 l0.length c0, .int .i64 a1] w λe w'=> ∃v0_:Value,e= .returned (v0_)/\Kd.R (Kd.int .u64) 73 w' w.heap.size (λ_=>True) v0_ r/\Below w.heap.size w w':=by
 have HR0:=B0.mk Yc;have HC0:=B0.mk hc0;clear Yc hc0;have HB:=B0.mk (Below.refl w.heap.size w);have H:(if((mn (mx a1 0) 65536)/64)>=0 then(if((mn (mx a1 0) 65536)/64)<=(wrap64 ((wrap64 (((mn (mx a1 0) 65536)/64)+(l0.length:Int)))+1)) then(if(wrap64 ((wrap64 (((mn (mx a1 0) 65536)/64)+(l0.length:Int)))+1):Int).toNat<=35184372088832 then(CC.l0 k ((mn (mx a1 0) 65536)%64) (List.replicate ((mn (mx a1 0) 65536)/64:Int).toNat 0) 0 l0 (l0.length:Int) 0) else(none)) else(none)) else(none))=some r:=h;clear h;obtain⟨TN,jk⟩ : ∃j_:Int,(mx a1 0)=j_:=⟨_,rfl⟩
 replace H:(if((mn (TN) 65536)/64)>=0 then(if((mn (TN) 65536)/64)<=(wrap64 ((wrap64 (((mn (TN) 65536)/64)+(l0.length:Int)))+1)) then(if(wrap64 ((wrap64 (((mn (TN) 65536)/64)+(l0.length:Int)))+1):Int).toNat<=35184372088832 then(CC.l0 k ((mn (TN) 65536)%64) (List.replicate ((mn (TN) 65536)/64:Int).toNat 0) 0 l0 (l0.length:Int) 0) else(none)) else(none)) else(none))=some r:=by first | (rw[jk] at H;exact H) | (simp only[jk] at H ⊢;exact H)
 (try (have ATW:0<=TN:=by(rw[<-jk];unfold mx;(repeat' split)<;>omega)))
 (try (have ATX:0<=TN:=by omega))
 (try (have ATY : ∀m_:Int,Int.tdiv TN m_=TN/m_:=λm_=>AU4 (by omega)))
 have ATZ:(if a1<0 then 0 else a1)=TN:=jk;obtain⟨XR,AFX⟩ : ∃j_:Int,(mn (TN) 65536)=j_:=⟨_,rfl⟩
 replace H:(if((XR)/64)>=0 then(if((XR)/64)<=(wrap64 ((wrap64 (((XR)/64)+(l0.length:Int)))+1)) then(if(wrap64 ((wrap64 (((XR)/64)+(l0.length:Int)))+1):Int).toNat<=35184372088832 then(CC.l0 k ((XR)%64) (List.replicate ((XR)/64:Int).toNat 0) 0 l0 (l0.length:Int) 0) else(none)) else(none)) else(none))=some r:=by first | (rw[AFX] at H;exact H) | (simp only[AFX] at H ⊢;exact H)
 have ATa:(if 65536<(TN) then 65536 else(TN))=XR:=AFX;by_cases c5:((XR)/64)>=0
 · rw[if_pos c5] at H
   have AMA:=eq_true c5;have AQb:decide (((XR)/64)>=0)=true:=decide_eq_true c5;clear c5;by_cases c6:((XR)/64)<=(wrap64 ((wrap64 (((XR)/64)+(l0.length:Int)))+1))
   · rw[if_pos c6] at H
     have AKy:=eq_true c6;have AKz:decide (((XR)/64)<=(wrap64 ((wrap64 (((XR)/64)+(l0.length:Int)))+1)))=true:=decide_eq_true c6;by_cases c7:(wrap64 ((wrap64 (((XR)/64)+(l0.length:Int)))+1):Int).toNat<=35184372088832
     · rw[if_pos c7] at H
       have AQc:=eq_true c7;have AQd:decide ((wrap64 ((wrap64 (((XR)/64)+(l0.length:Int)))+1):Int).toNat<=35184372088832)=true:=decide_eq_true c7;obtain⟨AMH,wG⟩ : ∃y_:List Int,y_=(List.replicate ((XR)/64:Int).toNat 0):=⟨_,rfl⟩
       replace H:(CC.l0 k ((XR)%64) AMH 0 l0 (l0.length:Int) 0)=some r:=by first | (rw[wG];with_reducible exact H) | (have rQ:=(AVJ _ _).symm.trans H;rw[wG];with_reducible exact rQ) | (have rQ:=(AVJ _ _).symm.trans H;with_reducible exact rQ) | with_reducible exact H | (rw[wG];exact H) | exact H
       have AJT:=B0.mk wG;clear wG;have H':=B0.mk H;clear H
       go_enter Tryz.func210,Tryz.ntmps210
       go_wp2_with (first | ((with_reducible refine ud (N:=24) rfl ?_);refine Kd.AC8 (Kd.int .u64) _ 73 rfl (N:=24) rfl 43 _ _ rfl ((XR)/64) (wrap64 ((wrap64 (((XR)/64)+(l0.length:Int)))+1)) rfl rfl Tryz.underlying43 (.int .u64 0) 8 jf rfl (by decide) (by omega) 0 (ok:=λ_=>True) (XE:=λ_=>True) rfl (λ_ hk=>hk) trivial (of_decide_eq_true (by first | (with_reducible assumption) | assumption)) (of_decide_eq_true (by first | (with_reducible assumption) | assumption)) (AVG (AUU _ (of_decide_eq_true (by first | (with_reducible assumption) | assumption):(wrap64 ((wrap64 (((XR)/64)+(l0.length:Int)))+1):Int).toNat<=35184372088832)) (by omega)) (Below.refl _ _) (AUN _) ?_;intro ATs w8 ho9 hb hg_ AFU;clear hg_ AFU;(first | rw[<-AJT.out] at ho9 | (simp only[Int.reduceToNat] at ho9;rw[<-AJT.out] at ho9));have wE:=B0.mk (Kd.gh ho9 (LR (by repeat (first | (with_reducible first | exact HB.out | apply BX | apply A7 | apply B8) | exact HB.out))));have wF:=B0.mk (XF (by repeat (first | (with_reducible first | exact HB.out | apply BX | apply A7 | apply B8) | exact HB.out)) hb);clear HB;have AMI:=wE;have HB:=wF;clear wE wF;clear hb ho9))
       go_loopg [7,8,27] k (λkq v7 v8 v27 w'=> ∃(rS:List Int) (rT:Int) (KV:Int),v8= .int .u64 rT/\v27= .int .i64 KV/\B0 (CC.l0 kq ((XR)%64) rS rT l0 (l0.length:Int) KV=some r)/\B0 (kq<=k)/\B0 (Kd.R (Kd.int .u64) 73 w' w.heap.size (λ_=>True) v7 rS)/\B0 (Below w.heap.size w w'))
       case atStart=>exact⟨(AMH),(0),(0),(by first | rfl | (simp;done) | (simp[*];done)),(by first | rfl | (simp;done) | (simp[*];done)),H',⟨AUN _⟩,⟨by(with_reducible repeat (first | apply Kd.Lx | apply Kd.Ly | apply Kd.Pg));exact AMI.out⟩,⟨by repeat (first | (with_reducible first | exact HB.out | apply BX | apply A7 | apply B8) | exact HB.out)⟩⟩
       case round =>
        clear H'
        try clear c2
        try clear p2
        try clear c5
        try clear AMA
        try clear AQb
        try clear c6
        try clear AKy
        try clear AKz
        try clear p6
        try clear c7
        try clear AQc
        try clear AQd
        obtain⟨rS,rT,KV,rfl,rfl,HA,HK1,AII,HB⟩:=hrel;cases gk with
        | zero=>exact absurd HA.out (by simp[CC.l0])
        | succ k1 =>
          have H:=HA.out;clear HA;simp only[CC.l0] at H;by_cases c10:KV<(l0.length:Int)
          · rw[if_pos c10] at H
            have AMJ:decide (KV<(l0.length:Int))=true:=decide_eq_true c10;clear c10;by_cases c11:0<=KV
            · rw[if_pos c11] at H
              have ATb:decide (0<=KV)=true:=decide_eq_true c11;clear c11;by_cases c12:KV<(l0.length:Int)
              · rw[if_pos c12] at H
                have ATc:decide (KV<(l0.length:Int))=true:=decide_eq_true c12;clear c12
                (try (have ATt:min (((XR)%64):Int).toNat 64=(((XR)%64):Int).toNat:=by omega))
                by_cases c14:rS.length<17592186044416
                · rw[if_pos c14] at H
                  have AMK:=B0.mk c14;clear c14;obtain⟨AML,wH⟩ : ∃y_:List Int,y_=(rS++ [Go.bits .or .u64 (IntKind.u64.wrap ((rd l0 KV)*2^((XR)%64).toNat)) rT]):=⟨_,rfl⟩
                  replace H:(CC.l0 k1 ((XR)%64) AML (((rd l0 KV)/2)/2^(63-((XR)%64)).toNat) l0 (l0.length:Int) (wrap64 (KV+1)))=some r:=by first | (rw[wH];with_reducible exact H) | (have rQ:=(AVJ _ _).symm.trans H;rw[wH];with_reducible exact rQ) | (have rQ:=(AVJ _ _).symm.trans H;with_reducible exact rQ) | with_reducible exact H | (rw[wH];exact H) | exact H
                  have AMM:=B0.mk wH;clear wH
                  (try (have ATu:min ((63-((XR)%64)):Int).toNat 64=((63-((XR)%64)):Int).toNat:=by omega))
                  have H':=B0.mk H;clear H;have AK2:0<=(KV:Int):=of_decide_eq_true (by first | (with_reducible assumption) | assumption);have AK3:KV<(l0.length:Int):=of_decide_eq_true (by first | (with_reducible assumption) | assumption);obtain⟨ATd,AQe,rU⟩:=Kd.zR HR0.out KV AK2 AK3;cases AQe
                  replace rU:=(HB.out.cell (World.block_lt_of_cell? w _ rU)).trans rU
                  replace AK2:=eq_true AK2
                  replace AK3:=eq_true AK3
                  go_wp2_with (first | ((with_reducible refine Qp (b:= .append) (xs:= #[.tmp 31, .tmp 37]) rfl ?_);at_builtin;refine Kd.uX (Kd.int .u64) (w0:=w) w.heap.size rfl (.tmp 31) (.tmp 37) 43 73 (.int .u64 0) 8 rfl Tryz.underlying43 jf rfl (by decide) (by omega) u7 rS (Go.bits .or .u64 (IntKind.u64.wrap ((rd l0 KV)*2^((XR)%64).toNat)) rT) [.int .u64 (Go.bits .or .u64 (IntKind.u64.wrap ((rd l0 KV)*2^((XR)%64).toNat)) rT)] (λ_=>True) (λ_=>False) rfl rfl ?aP (λ_ hk=>hk.elim) ?aF ?aO ?aB ?aS ?aL ?_;(case aP=>exact rfl);(case aB=>exact(by repeat (first | (with_reducible first | exact HB.out | apply BX | apply A7 | apply B8) | exact HB.out)));(case aF=>exact(λ_ _=>trivial));(case aO=>exact(by(with_reducible repeat (first | apply Kd.Lx | apply Kd.Ly | apply Kd.Pg));exact AII.out));(case aS=>exact(LR (by repeat (first | (with_reducible first | exact HB.out | apply BX | apply A7 | apply B8) | exact HB.out))));(case aL=>have:=AMK.out;omega);intro ATv w16 ho hb hg Pe;rw[<-AMM.out] at ho;have wE:=B0.mk (hb);have wF:=B0.mk (ho);clear HB;clear AII;have HB:=wE;have AMN:=wF;clear wE wF;clear ho hb hg Pe))
                  go_roundg k1
                  case measure=>have:=HK1.out;omega
                  case rel=>exact⟨(AML),(((rd l0 KV)/2)/2^(63-((XR)%64)).toNat),(wrap64 (KV+1)),(by first | rfl | (simp;done) | (simp only[<-AFX]<;>(first | rfl | simp)) | (simp[*];done)),(by first | rfl | (simp;done) | (simp[*];done)),H',⟨by have:=HK1.out;omega⟩,⟨by(with_reducible repeat (first | apply Kd.Lx | apply Kd.Ly | apply Kd.Pg));exact AMN.out⟩,⟨by repeat (first | (with_reducible first | exact HB.out | apply BX | apply A7 | apply B8) | exact HB.out)⟩⟩
                · rw[if_neg c14] at H
                  exact absurd H (by simp)
              · rw[if_neg c12] at H
                exact absurd H (by simp)
            · rw[if_neg c11] at H
              exact absurd H (by simp)
          · rw[if_neg c10] at H
            have AMJ:decide (KV<(l0.length:Int))=false:=decide_eq_false c10;clear c10;by_cases c17:rS.length<17592186044416
            · rw[if_pos c17] at H
              have AMO:=B0.mk c17;clear c17;obtain⟨AK4,wI⟩ : ∃y_:List Int,y_=(rS++ [rT]):=⟨_,rfl⟩
              replace H:((Ay.f k1 AK4).bind λt163=>(some t163))=some r:=by first | (rw[wI];with_reducible exact H) | (have rQ:=(AVJ _ _).symm.trans H;rw[wI];with_reducible exact rQ) | (have rQ:=(AVJ _ _).symm.trans H;with_reducible exact rQ) | with_reducible exact H | (rw[wI];exact H) | exact H
              have AMP:=B0.mk wI;clear wI
              replace H:=AVj.mp H
              obtain⟨t163,AMQ,H⟩:=H
              replace H:(some t163)=some r:=H
              have A18:=B0.mk AMQ;clear AMQ;obtain rfl:=AWD H
              go_wp2_with (first | ((with_reducible refine Qp (b:= .append) (xs:= #[.tmp 45, .tmp 47]) rfl ?_);at_builtin;refine Kd.uX (Kd.int .u64) (w0:=w) w.heap.size rfl (.tmp 45) (.tmp 47) 43 73 (.int .u64 0) 8 rfl Tryz.underlying43 jf rfl (by decide) (by omega) u7 rS rT [.int .u64 rT] (λ_=>True) (λ_=>False) rfl rfl ?aP (λ_ hk=>hk.elim) ?aF ?aO ?aB ?aS ?aL ?_;(case aP=>exact rfl);(case aB=>exact(by repeat (first | (with_reducible first | exact HB.out | apply BX | apply A7 | apply B8) | exact HB.out)));(case aF=>exact(λ_ _=>trivial));(case aO=>exact(by(with_reducible repeat (first | apply Kd.Lx | apply Kd.Ly | apply Kd.Pg));exact AII.out));(case aS=>exact(LR (by repeat (first | (with_reducible first | exact HB.out | apply BX | apply A7 | apply B8) | exact HB.out))));(case aL=>have:=AMO.out;omega);intro ATw w19 ho hb hg Pe;rw[<-AMP.out] at ho;have wE:=B0.mk (hb);have wF:=B0.mk (ho);clear HB;clear AII;have HB:=wE;have jl:=wF;clear wE wF;clear ho hb hg Pe;obtain⟨AQf,AQg,AQh⟩:=Kd.AHY jl.out;subst AQh) | ((with_reducible refine cO (f:=187) rfl ?_);refine AEO (some 49) rfl rfl Tryz.func187 (by kernel_rfl) rfl #[.slice AQf AK4.length AQg] rfl (by(try simp only[AWs,AUr,AW9]);first | done | rfl | (simp only[AUn,AUJ];rfl) | (simp only[*];done)) ?_;(with_reducible refine(Ay.calls k1 _ _ AK4 t163 _ ?AFV ?AFW A18.out).mono ?_);(case AFV=>repeat (first | exact(Kd.uY jl.out).2.2 | (with_reducible refine Kd.YE ?_ _) | (with_reducible refine Kd.YF ?_ _) | (with_reducible refine Kd.iQ ?_)));(case AFW=>exact(Kd.uY jl.out).2.1);rintro e w21 ⟨ATx,rfl,ho0,hb⟩;refine⟨_,rfl, ?_⟩;have wE:=B0.mk (Kd.AEN (by(with_reducible repeat (first | apply Kd.Lx | apply Kd.Ly | apply Kd.Pg));exact jl.out) (Kd.AKJ ho0) hb);have wF:=B0.mk (Kd.gh (Kd.AKL ho0 (Kd.AQA (by(with_reducible repeat (first | apply Kd.Lx | apply Kd.Ly | apply Kd.Pg));exact jl.out))) (LR (by repeat (first | (with_reducible first | exact HB.out | apply BX | apply A7 | apply B8) | exact HB.out))));have n2_:=B0.mk (XF (by repeat (first | (with_reducible first | exact HB.out | apply BX | apply A7 | apply B8) | exact HB.out)) hb);clear jl;clear HB;have jl:=wE;have AMR:=wF;have HB:=n2_;clear wE wF n2_;(try clear hb);(try clear uN);(try clear hk);(try clear hi);(try clear ho0)))
              go_ret
              exact⟨_,by first | rfl | (simp[LS,LU]<;>rfl) | (simp only[<-jk,<-AFX];first | rfl | (simp[LS,LU]<;>rfl)) | (simp[*,LS,LU]<;>rfl),by(with_reducible repeat (first | apply Kd.Lx | apply Kd.Ly | apply Kd.Pg));exact Kd.iO AMR.out (λ_ hk=>trivial),by repeat (first | (with_reducible first | exact HB.out | apply BX | apply A7 | apply B8) | exact HB.out)⟩
            · rw[if_neg c17] at H
              exact absurd H (by simp)
     · rw[if_neg c7] at H
       exact absurd H (by simp)
   · rw[if_neg c6] at H
     exact absurd H (by simp)
 · rw[if_neg c5] at H
   exact absurd H (by simp)
/-! ### nat_Bits: function 114 -/
def DB.f (k:Nat) (l0:List Int):Option (Int):=(Bm.f k l0).bind λAFY=>(if AFY=0 then(some 0) else(if 0<=(wrap64 (AFY-1)) then(if(wrap64 (AFY-1))<(l0.length:Int) then((BV.f k (rd l0 (wrap64 (AFY-1)))).bind λAQi=>(some (wrap64 ((wrap64 (64*(wrap64 (AFY-1))))+AQi)))) else(none)) else(none)))
/-! ### nat_Shr: function 116 -/
def EO.l0:Nat->List Int->Int->List Int->Int->Option (List Int)
 | 0,_,_,_,_=>none
 | k+1,x0,x6,x7,x8=>if x8<(x0.length:Int) then(if(wrap64 (x8+1))<(x0.length:Int) then(if 0<=(wrap64 (x8+1)) then(if 0<=x8 then(if x7.length<17592186044416 then(EO.l0 k x0 x6 (x7++ [Go.bits .or .u64 ((rd x0 x8)/2^x6.toNat) (IntKind.u64.wrap ((IntKind.u64.wrap ((rd x0 (wrap64 (x8+1)))*2))*2^(63-x6).toNat))]) (wrap64 (x8+1))) else(none)) else(none)) else(none)) else(if 0<=x8 then(if x7.length<17592186044416 then(EO.l0 k x0 x6 (x7++ [Go.bits .or .u64 ((rd x0 x8)/2^x6.toNat) 0]) (wrap64 (x8+1))) else(none)) else(none))) else((Ay.f k x7).bind λAQj=>(some AQj))
def EO.f (k:Nat) (l0:List Int) (a1:Int):Option (List Int):=if(wrap64 ((mx a1 0)/64))>=(l0.length:Int) then(some ([]:List Int)) else(if 0<=(wrap64 ((l0.length:Int)-(wrap64 ((mx a1 0)/64)))) then(if(wrap64 ((l0.length:Int)-(wrap64 ((mx a1 0)/64))):Int).toNat<=35184372088832 then(EO.l0 k l0 ((mx a1 0)%64) (List.replicate 0 0) (wrap64 ((mx a1 0)/64))) else(none)) else(none))
/-! ### limb_Mul: function 120 -/
def Dr.f (a0 a1:Int):Option (Int × Int):=some (IntKind.u64.wrap ((IntKind.u64.wrap ((IntKind.u64.wrap ((a0/4294967296)*(a1/4294967296)))+((IntKind.u64.wrap ((IntKind.u64.wrap ((Go.bits .and .u64 a0 4294967295)*(a1/4294967296)))+((IntKind.u64.wrap ((Go.bits .and .u64 a0 4294967295)*(Go.bits .and .u64 a1 4294967295)))/4294967296)))/4294967296)))+((IntKind.u64.wrap ((IntKind.u64.wrap ((a0/4294967296)*(Go.bits .and .u64 a1 4294967295)))+(Go.bits .and .u64 (IntKind.u64.wrap ((IntKind.u64.wrap ((Go.bits .and .u64 a0 4294967295)*(a1/4294967296)))+((IntKind.u64.wrap ((Go.bits .and .u64 a0 4294967295)*(Go.bits .and .u64 a1 4294967295)))/4294967296))) 4294967295)))/4294967296)),Go.bits .or .u64 (IntKind.u64.wrap ((IntKind.u64.wrap ((IntKind.u64.wrap ((a0/4294967296)*(Go.bits .and .u64 a1 4294967295)))+(Go.bits .and .u64 (IntKind.u64.wrap ((IntKind.u64.wrap ((Go.bits .and .u64 a0 4294967295)*(a1/4294967296)))+((IntKind.u64.wrap ((Go.bits .and .u64 a0 4294967295)*(Go.bits .and .u64 a1 4294967295)))/4294967296))) 4294967295)))*4294967296)) (Go.bits .and .u64 (IntKind.u64.wrap ((Go.bits .and .u64 a0 4294967295)*(Go.bits .and .u64 a1 4294967295))) 4294967295))
/-! ### limb_Sub: function 163 -/
def FC.f (a0 a1 a2:Int):Option (Int × Int):=if a0<a1 then(if(IntKind.u64.wrap (a0-a1))<a2 then(some (IntKind.u64.wrap ((IntKind.u64.wrap (a0-a1))-a2),(0+1)+1)) else(some (IntKind.u64.wrap ((IntKind.u64.wrap (a0-a1))-a2),0+1))) else(if(IntKind.u64.wrap (a0-a1))<a2 then(some (IntKind.u64.wrap ((IntKind.u64.wrap (a0-a1))-a2),0+1)) else(some (IntKind.u64.wrap ((IntKind.u64.wrap (a0-a1))-a2),0)))
/-! ### quot_correct: function 162 -/
def BW.l0:Nat->Int->Int->Int->Int->Int->Int->Option (Int)
 | 0,_,_,_,_,_,_=>none
 | k+1,x0,x1,x2,x3,x4,x5=>(Dr.f x0 x4).bind λAJU=>((FC.f x2 AJU.2 0).bind λAFZ=>((FC.f x1 AJU.1 AFZ.2).bind λAMS=>((Dr.f x0 x5).bind λAFa=>(if AMS.1=0 then(if AFa.1<AFZ.1 then(some x0) else(if AFa.1=AFZ.1 then(if AFa.2<=x3 then(some x0) else(BW.l0 k (IntKind.u64.wrap (x0-1)) x1 x2 x3 x4 x5)) else(BW.l0 k (IntKind.u64.wrap (x0-1)) x1 x2 x3 x4 x5))) else(some x0)))))
def BW.f (k:Nat) (a0 a1 a2 a3 a4 a5:Int):Option (Int):=BW.l0 k a0 a1 a2 a3 a4 a5
/-! ### quot_guess: function 158 -/
def Gb.f (k:Nat) (l0:List Int) (a1 a2 a3:Int):Option (Int):=if 0<=a1 then(if a1<(l0.length:Int) then(if 0<=(wrap64 (a1-1)) then(if(wrap64 (a1-1))<(l0.length:Int) then(if 0<=(wrap64 (a1-2)) then(if(wrap64 (a1-2))<(l0.length:Int) then(if(rd l0 a1)>=a2 then((BW.f k 18446744073709551615 (rd l0 a1) (rd l0 (wrap64 (a1-1))) (rd l0 (wrap64 (a1-2))) a2 a3).bind λAQk=>(some AQk)) else((Il.f k (rd l0 a1) (rd l0 (wrap64 (a1-1))) a2).bind λAMT=>((BW.f k AMT.1 (rd l0 a1) (rd l0 (wrap64 (a1-1))) (rd l0 (wrap64 (a1-2))) a2 a3).bind λAQl=>(some AQl)))) else(none)) else(none)) else(none)) else(none)) else(none)) else(none)
/-! ### limb_Add: function 147 -/
def D8.f (a0 a1 a2:Int):Option (Int × Int):=if(IntKind.u64.wrap (a0+a1))<a0 then(if(IntKind.u64.wrap ((IntKind.u64.wrap (a0+a1))+a2))<(IntKind.u64.wrap (a0+a1)) then(some (IntKind.u64.wrap ((IntKind.u64.wrap (a0+a1))+a2),(0+1)+1)) else(some (IntKind.u64.wrap ((IntKind.u64.wrap (a0+a1))+a2),0+1))) else(if(IntKind.u64.wrap ((IntKind.u64.wrap (a0+a1))+a2))<(IntKind.u64.wrap (a0+a1)) then(some (IntKind.u64.wrap ((IntKind.u64.wrap (a0+a1))+a2),0+1)) else(some (IntKind.u64.wrap ((IntKind.u64.wrap (a0+a1))+a2),0)))
/-! ### quot_take: function 159 -/
def Cv.l0:Nat->List Int->List Int->Int->Int->Int->Int->List Int->Int->Int->Option (Bool × List Int)
 | 0,_,_,_,_,_,_,_,_,_=>none
 | k+1,x0,x1,x2,x3,x9,Jl,aV,Sm,N2=>if N2<Sm then(if 0<=N2 then(if N2<(aV.length:Int) then((Dr.f (rd aV N2) x3).bind λAJV=>((D8.f AJV.2 x9 0).bind λAJW=>(if 0<=(wrap64 (x2+N2)) then(if(wrap64 (x2+N2))<(x0.length:Int) then((FC.f (rd x0 (wrap64 (x2+N2))) AJW.1 Jl).bind λAJX=>(Cv.l0 k (x0.set ((wrap64 (x2+N2)):Int).toNat AJX.1) x1 x2 x3 (IntKind.u64.wrap (AJV.1+AJW.2)) AJX.2 aV Sm (wrap64 (N2+1)))) else(none)) else(none)))) else(none)) else(none)) else(if 0<=(wrap64 (x2+(x1.length:Int))) then(if(wrap64 (x2+(x1.length:Int)))<(x0.length:Int) then((FC.f (rd x0 (wrap64 (x2+(x1.length:Int)))) x9 Jl).bind λAJY=>(some ((AJY.2 !=0),(x0.set ((wrap64 (x2+(x1.length:Int))):Int).toNat AJY.1)))) else(none)) else(none))
def Cv.f (k:Nat) (l0 l1:List Int) (a2 a3:Int):Option (Bool × List Int):=Cv.l0 k l0 l1 a2 a3 0 0 l1 (l1.length:Int) 0
/-! ### quot_back: function 160 -/
def C7.l0:Nat->List Int->List Int->Int->Int->List Int->Int->Int->Option (List Int)
 | 0,_,_,_,_,_,_,_=>none
 | k+1,x0,x1,x2,x6,Ik,aW,Hf=>if Hf<aW then(if 0<=Hf then(if Hf<(Ik.length:Int) then(if 0<=(wrap64 (x2+Hf)) then(if(wrap64 (x2+Hf))<(x0.length:Int) then((D8.f (rd x0 (wrap64 (x2+Hf))) (rd Ik Hf) x6).bind λAJZ=>(C7.l0 k (x0.set ((wrap64 (x2+Hf)):Int).toNat AJZ.1) x1 x2 AJZ.2 Ik aW (wrap64 (Hf+1)))) else(none)) else(none)) else(none)) else(none)) else(if 0<=(wrap64 (x2+(x1.length:Int))) then(if(wrap64 (x2+(x1.length:Int)))<(x0.length:Int) then(some (x0.set ((wrap64 (x2+(x1.length:Int))):Int).toNat (IntKind.u64.wrap ((rd x0 (wrap64 (x2+(x1.length:Int))))+x6)))) else(none)) else(none))
def C7.f (k:Nat) (l0 l1:List Int) (a2:Int):Option (List Int):=C7.l0 k l0 l1 a2 0 l1 (l1.length:Int) 0
/-! ### quot_long: function 155 -/
mutual
def B5.l0:Nat->List Int->Int->List Int->List Int->Option (List Int × List Int)
 | 0,_,_,_,_=>none
 | k+1,x0,x6,x7,x8=>if(x8.length:Int)<(wrap64 ((x0.length:Int)+1)) then(if x8.length<17592186044416 then(B5.l0 k x0 x6 x7 (x8++ [0])) else(none)) else(if 0<=(wrap64 ((x8.length:Int)-(x7.length:Int))) then(if(wrap64 ((x8.length:Int)-(x7.length:Int)):Int).toNat<=35184372088832 then((some (List.replicate (wrap64 ((x8.length:Int)-(x7.length:Int)):Int).toNat 0:List Int)).bind λAMU=>(B5.l1 k x6 x7 x8 (x7.length:Int) AMU (wrap64 ((AMU.length:Int)-1)))) else(none)) else(none))
def B5.l1:Nat->Int->List Int->List Int->Int->List Int->Int->Option (List Int × List Int)
 | 0,_,_,_,_,_,_=>none
 | k+1,x6,x7,x8,x9,Jl,Ik=>if Ik>=0 then(if 0<=(wrap64 (x9-1)) then(if(wrap64 (x9-1))<(x7.length:Int) then(if 0<=(wrap64 (x9-2)) then(if(wrap64 (x9-2))<(x7.length:Int) then((Gb.f k x8 (wrap64 (Ik+x9)) (rd x7 (wrap64 (x9-1))) (rd x7 (wrap64 (x9-2)))).bind λAK5=>((Cv.f k x8 x7 Ik AK5).bind λAFb=>(if AFb.1=true then((C7.f k AFb.2 x7 Ik).bind λAQm=>(if 0<=Ik then(if Ik<(Jl.length:Int) then(B5.l1 k x6 x7 AQm x9 (Jl.set (Ik:Int).toNat (IntKind.u64.wrap (AK5-1))) (wrap64 (Ik-1))) else(none)) else(none))) else(if 0<=Ik then(if Ik<(Jl.length:Int) then(B5.l1 k x6 x7 AFb.2 x9 (Jl.set (Ik:Int).toNat AK5) (wrap64 (Ik-1))) else(none)) else(none))))) else(none)) else(none)) else(none)) else(none)) else((Ay.f k Jl).bind λAQn=>((EO.f k x8 x6).bind λAQo=>(some (AQn,AQo))))
end
def B5.f (k:Nat) (l0 l1:List Int):Option (List Int × List Int):=(DB.f k l1).bind λAK6=>((CC.f k l1 (wrap64 ((wrap64 (64*(l1.length:Int)))-AK6))).bind λAQp=>((CC.f k l0 (wrap64 ((wrap64 (64*(l1.length:Int)))-AK6))).bind λAQq=>(B5.l0 k l0 (wrap64 ((wrap64 (64*(l1.length:Int)))-AK6)) AQp AQq)))
/-! ### quot_Div: function 133 -/
def H6.f (k:Nat) (l0 l1:List Int):Option (List Int × List Int × Bool):=(Ay.f k l0).bind λAIJ=>((Ay.f k l1).bind λADV=>(if(ADV.length:Int)=0 then(some (([]:List Int),([]:List Int),false)) else((El.f k AIJ ADV).bind λAQr=>(if AQr<0 then(some (([]:List Int),AIJ,true)) else(if(ADV.length:Int)=1 then(if 0<(ADV.length:Int) then((DS.f k AIJ (rd ADV 0)).bind λAJa=>((Kw.f k AJa.2.1).bind λAQs=>(some (AJa.1,AQs,true)))) else(none)) else((B5.f k AIJ ADV).bind λAJb=>(some (AJb.1,AJb.2,true))))))))
/-! ### nat_Word: function 115 -/
def J2.f (k:Nat) (l0:List Int):Option (Int × Bool):=(Bm.f k l0).bind λAMV=>(if AMV=0 then(some (0,true)) else(if AMV=1 then(if 0<(l0.length:Int) then(some (rd l0 0,true)) else(none)) else(some (0,false))))
/-! ### gcd_words: function 165 -/
def EE.l0:Nat->Int->Int->Option (Int)
 | 0,_,_=>none
 | k+1,x0,x1=>if x1=0 then(some x0) else(EE.l0 k x1 (Int.tmod x0 x1))
def EE.f (k:Nat) (a0 a1:Int):Option (Int):=EE.l0 k a0 a1
/-! ### gcd_Gcd: function 164 -/
def GI.l0:Nat->List Int->List Int->Option (List Int)
 | 0,_,_=>none
 | k+1,x0,x1=>if(x1.length:Int)>1 then((H6.f k x0 x1).bind λAMW=>(GI.l0 k x1 AMW.2.1)) else((J2.f k x1).bind λAFc=>(if AFc.1=0 then(some x0) else((DS.f k x0 AFc.1).bind λAMX=>((EE.f k AFc.1 AMX.2.1).bind λAQt=>((Kw.f k AQt).bind λAQu=>(some AQu))))))
def GI.f (k:Nat) (l0 l1:List Int):Option (List Int):=(Ay.f k l0).bind λAQv=>((Ay.f k l1).bind λAQw=>(GI.l0 k AQv AQw))
/-! ### gcd_Reduce: function 161 -/
def Gc.f (k:Nat) (l0 l1:List Int):Option (List Int × List Int):=(GI.f k l0 l1).bind λAK7=>(if(AK7.length:Int)=0 then(some (([]:List Int),([]:List Int))) else((H6.f k l0 AK7).bind λAMY=>((H6.f k l1 AK7).bind λAMZ=>(some (AMY.1,AMZ.1)))))
/-! ### rat_lowest: function 157 -/
def Fm.f (k:Nat) (a0:Bool) (l1 l2:List Int):Option (Bool × List Int × List Int):=(Gc.f k l1 l2).bind λwJ=>(if a0=true then(some (decide ((wJ.1.length:Int)>0),wJ.1,wJ.2)) else(some (false,wJ.1,wJ.2)))
/-! ### prod_rows: function 144 -/
mutual
def Bz.l0:Nat->List Int->List Int->List Int->Int->Int->Option (List Int)
 | 0,_,_,_,_,_=>none
 | k+1,x1,x5,Sm,N2,NP=>if NP<N2 then(if 0<=NP then(if NP<(Sm.length:Int) then(Bz.l1 k x1 x5 NP (rd Sm NP) 0 Sm N2 NP x1 (x1.length:Int) 0) else(none)) else(none)) else((Ay.f k x5).bind λAQx=>(some AQx))
def Bz.l1:Nat->List Int->List Int->Int->Int->Int->List Int->Int->Int->List Int->Int->Int->Option (List Int)
 | 0,_,_,_,_,_,_,_,_,_,_,_=>none
 | k+1,x1,x5,x6,x7,x8,Sm,N2,NP,x28,cV,rV=>if rV<cV then(if 0<=rV then(if rV<(x28.length:Int) then((Dr.f x7 (rd x28 rV)).bind λAJc=>(if 0<=(wrap64 (x6+rV)) then(if(wrap64 (x6+rV))<(x5.length:Int) then((D8.f (rd x5 (wrap64 (x6+rV))) AJc.2 x8).bind λAJd=>(Bz.l1 k x1 (x5.set ((wrap64 (x6+rV)):Int).toNat AJd.1) x6 x7 (IntKind.u64.wrap (AJc.1+AJd.2)) Sm N2 NP x28 cV (wrap64 (rV+1)))) else(none)) else(none))) else(none)) else(none)) else(if 0<=(wrap64 (x6+(x1.length:Int))) then(if(wrap64 (x6+(x1.length:Int)))<(x5.length:Int) then(Bz.l0 k x1 (x5.set ((wrap64 (x6+(x1.length:Int))):Int).toNat x8) Sm N2 (wrap64 (NP+1))) else(none)) else(none))
end
def Bz.f (k:Nat) (l0 l1:List Int):Option (List Int):=if 0<=(wrap64 ((l0.length:Int)+(l1.length:Int))) then(if(wrap64 ((l0.length:Int)+(l1.length:Int)):Int).toNat<=35184372088832 then(Bz.l0 k l1 (List.replicate (wrap64 ((l0.length:Int)+(l1.length:Int)):Int).toNat 0) l0 (l0.length:Int) 0) else(none)) else(none)
/-! ### nat_Sub: function 62 -/
def Dk.l0:Nat->List Int->List Int->Int->List Int->Int->Int->Option (List Int × Bool)
 | 0,_,_,_,_,_,_=>none
 | k+1,x1,x6,x7,x18,oa,aV=>if aV<oa then(if 0<=aV then(if aV<(x18.length:Int) then(if aV<(x1.length:Int) then((FC.f (rd x18 aV) (rd x1 aV) x7).bind λAJe=>(if x6.length<17592186044416 then(Dk.l0 k x1 (x6++ [AJe.1]) AJe.2 x18 oa (wrap64 (aV+1))) else(none))) else((FC.f (rd x18 aV) 0 x7).bind λAJf=>(if x6.length<17592186044416 then(Dk.l0 k x1 (x6++ [AJf.1]) AJf.2 x18 oa (wrap64 (aV+1))) else(none)))) else(none)) else(none)) else((Ay.f k x6).bind λAQy=>(some (AQy,true)))
def Dk.f (k:Nat) (l0 l1:List Int):Option (List Int × Bool):=(El.f k l0 l1).bind λAQz=>(if AQz<0 then(some (([]:List Int),false)) else(if 0<=(l0.length:Int) then(if((l0.length:Int):Int).toNat<=35184372088832 then(Dk.l0 k l1 (List.replicate 0 0) 0 l0 (l0.length:Int) 0) else(none)) else(none)))
/-! ### nat_Add: function 111 -/
mutual
def Bc.l0:Nat->List Int->List Int->Int->List Int->Int->Int->Option (List Int)
 | 0,_,_,_,_,_,_=>none
 | k+1,x1,x5,x6,Sm,N2,NP=>if NP<N2 then(if 0<=NP then(if NP<(Sm.length:Int) then(if NP<(x1.length:Int) then((D8.f (rd Sm NP) (rd x1 NP) x6).bind λAJg=>(if x5.length<17592186044416 then(Bc.l0 k x1 (x5++ [AJg.1]) AJg.2 Sm N2 (wrap64 (NP+1))) else(none))) else((D8.f (rd Sm NP) 0 x6).bind λAJh=>(if x5.length<17592186044416 then(Bc.l0 k x1 (x5++ [AJh.1]) AJh.2 Sm N2 (wrap64 (NP+1))) else(none)))) else(none)) else(none)) else(if x5.length<17592186044416 then((Ay.f k (x5++ [x6])).bind λAQ0=>(some AQ0)) else(none))
def Bc.l1:Nat->List Int->List Int->Int->List Int->Int->Int->Option (List Int)
 | 0,_,_,_,_,_,_=>none
 | k+1,x1,x5,x6,Sm,N2,NP=>if NP<N2 then(if 0<=NP then(if NP<(Sm.length:Int) then(if NP<(x1.length:Int) then((D8.f (rd Sm NP) (rd x1 NP) x6).bind λAJi=>(if x5.length<17592186044416 then(Bc.l1 k x1 (x5++ [AJi.1]) AJi.2 Sm N2 (wrap64 (NP+1))) else(none))) else((D8.f (rd Sm NP) 0 x6).bind λAJj=>(if x5.length<17592186044416 then(Bc.l1 k x1 (x5++ [AJj.1]) AJj.2 Sm N2 (wrap64 (NP+1))) else(none)))) else(none)) else(none)) else(if x5.length<17592186044416 then((Ay.f k (x5++ [x6])).bind λAQ1=>(some AQ1)) else(none))
end
def Bc.f (k:Nat) (l0 l1:List Int):Option (List Int):=if(l0.length:Int)<(l1.length:Int) then(if 0<=(wrap64 ((l1.length:Int)+1)) then(if(wrap64 ((l1.length:Int)+1):Int).toNat<=35184372088832 then(Bc.l0 k l0 (List.replicate 0 0) 0 l1 (l1.length:Int) 0) else(none)) else(none)) else(if 0<=(wrap64 ((l0.length:Int)+1)) then(if(wrap64 ((l0.length:Int)+1):Int).toNat<=35184372088832 then(Bc.l1 k l1 (List.replicate 0 0) 0 l0 (l0.length:Int) 0) else(none)) else(none))
/-! ### prod_part: function 160 -/
def FX.f (k:Nat) (l0:List Int) (a1 a2:Int):Option (List Int):=if 0<=(mn a1 (l0.length:Int)) then(if(mn a1 (l0.length:Int))<=(mn a2 (l0.length:Int)) then(if(mn a2 (l0.length:Int))<=(l0.length:Int) then((Ay.f k ((l0.take ((mn a2 (l0.length:Int)):Int).toNat).drop ((mn a1 (l0.length:Int)):Int).toNat)).bind λAK8=>(some AK8)) else(none)) else(none)) else(none)
/-! ### prod_above: function 161 -/
def Ew.f (k:Nat) (l0:List Int) (a1:Int):Option (List Int):=if 0<=a1 then(if(a1:Int).toNat<=35184372088832 then((some (List.replicate (a1:Int).toNat 0:List Int)).bind λAMa=>(if AMa.length+l0.length<17592186044416 then((Ay.f k (AMa++l0)).bind λAQ2=>(some AQ2)) else(none))) else(none)) else(none)
/-! ### prod_halves: function 145 -/
def KW.f (M:List Int->List Int->Option (List Int)) (k:Nat) (l0 l1:List Int):Option (List Int):=(FX.f k l0 0 (wrap64 (Int.tdiv (wrap64 ((mx (l0.length:Int) (l1.length:Int))+1)) 2))).bind λAIK=>((FX.f k l0 (wrap64 (Int.tdiv (wrap64 ((mx (l0.length:Int) (l1.length:Int))+1)) 2)) (l0.length:Int)).bind λAMb=>((FX.f k l1 0 (wrap64 (Int.tdiv (wrap64 ((mx (l0.length:Int) (l1.length:Int))+1)) 2))).bind λAMc=>((FX.f k l1 (wrap64 (Int.tdiv (wrap64 ((mx (l0.length:Int) (l1.length:Int))+1)) 2)) (l1.length:Int)).bind λAIL=>((M AIK AMc).bind λAFd=>((M AMb AIL).bind λAIM=>((Bc.f k AIK AMb).bind λAQ3=>((Bc.f k AMc AIL).bind λAQ4=>((M AQ3 AQ4).bind λAQ5=>((Bc.f k AFd AIM).bind λAQ6=>((Dk.f k AQ5 AQ6).bind λAMd=>((Ew.f k AMd.1 (wrap64 (Int.tdiv (wrap64 ((mx (l0.length:Int) (l1.length:Int))+1)) 2))).bind λAQ7=>((Ew.f k AIM (wrap64 (2*(wrap64 (Int.tdiv (wrap64 ((mx (l0.length:Int) (l1.length:Int))+1)) 2))))).bind λAQ8=>((Bc.f k AQ7 AQ8).bind λAK9=>((Bc.f k AFd AK9).bind λAQ9=>(some AQ9)))))))))))))))
/-! ### prod_Mul: function 71 -/
def D9.f:Nat->List Int->List Int->Option (List Int)
 | 0,_,_=>none
 | k+1,l0,l1=>if(l0.length:Int)<8 then((Bz.f k l0 l1).bind λALA=>(some ALA)) else(if(l1.length:Int)<8 then((Bz.f k l0 l1).bind λARA=>(some ARA)) else((KW.f (D9.f k) k l0 l1).bind λARB=>(some ARB)))
/-! ### nat_Right: function 54 -/
def JU.f (l0:List Int):Option (Bool):=if(l0.length:Int)=0 then(some true) else(if 0<=(wrap64 ((l0.length:Int)-1)) then(if(wrap64 ((l0.length:Int)-1))<(l0.length:Int) then(some ((rd l0 (wrap64 ((l0.length:Int)-1))) !=0)) else(none)) else(none))
/-! ### rat_same: function 156 -/
def N3.f (k:Nat) (l0 l1:List Int):Option (Bool):=(JU.f l0).bind λARC=>(if ARC=true then((JU.f l1).bind λAIN=>(if AIN=true then((El.f k l0 l1).bind λAIO=>(some (AIO==0))) else(some false))) else(some false))
/-! ### rat_sum: function 157 -/
def Ol.f (k:Nat) (a0:Bool) (l1:List Int) (a2:Bool) (l3:List Int):Option (Bool × List Int):=if(a0==a2)=true then((Bc.f k l1 l3).bind λALB=>(some (a0,ALB))) else((Dk.f k l1 l3).bind λAJk=>(if AJk.2=true then(some (a0,AJk.1)) else((Dk.f k l3 l1).bind λAMe=>(some (a2,AMe.1)))))
/-! ### rat_one: function 155 -/
def NQ.f  :Option (List Int):=some (([1]:List Int))
/-! ### rat_safe: function 158 -/
def Im.f (k:Nat) (l0:List Int):Option (List Int):=(DB.f k l0).bind λARD=>(if ARD=0 then((NQ.f).bind λALC=>(some ALC)) else(some l0))
/-! ### rat_Add: function 112 -/
def Ky.f (k:Nat) (EN:Bool) (FY Fz:List Int) (D6:Bool) (OY NR:List Int):Option (Bool × List Int × List Int):=(N3.f k Fz NR).bind λARE=>(if ARE=true then((Ol.f k EN FY D6 OY).bind λAJl=>((Im.f k Fz).bind λALD=>((Fm.f k AJl.1 AJl.2 ALD).bind λAFe=>(some (AFe.1,AFe.2.1,AFe.2.2))))) else((D9.f k FY NR).bind λARF=>((D9.f k OY Fz).bind λARG=>((Ol.f k EN ARF D6 ARG).bind λAJm=>((D9.f k Fz NR).bind λARH=>((Im.f k ARH).bind λARI=>((Fm.f k AJm.1 AJm.2 ARI).bind λAFf=>(some (AFf.1,AFf.2.1,AFf.2.2)))))))))
/-! ### rat_Mul: function 116 -/
def Kz.f (k:Nat) (EN:Bool) (FY Fz:List Int) (D6:Bool) (OY NR:List Int):Option (Bool × List Int × List Int):=(Im.f k NR).bind λARJ=>((Gc.f k FY ARJ).bind λAJn=>((Im.f k Fz).bind λARK=>((Gc.f k OY ARK).bind λAJo=>((D9.f k AJn.1 AJo.1).bind λARL=>((D9.f k AJo.2 AJn.2).bind λARM=>((Fm.f k (EN !=D6) ARL ARM).bind λAFg=>(some (AFg.1,AFg.2.1,AFg.2.2))))))))
/-! ### rat_Neg: function 118 -/
def L5.f (k:Nat) (EN:Bool) (FY Fz:List Int):Option (Bool × List Int × List Int):=if EN=true then((Ay.f k FY).bind λAMf=>((Ay.f k Fz).bind λAFh=>(some (false,AMf,AFh)))) else((DB.f k FY).bind λAFi=>((Ay.f k FY).bind λAMg=>((Ay.f k Fz).bind λAMh=>(some (decide (AFi>0),AMg,AMh)))))
/-! ### rat_Sub: function 114 -/
def L6.f (k:Nat) (EN:Bool) (FY Fz:List Int) (D6:Bool) (OY NR:List Int):Option (Bool × List Int × List Int):=(L5.f k D6 OY NR).bind λAAQ=>((Ky.f k EN FY Fz AAQ.1 AAQ.2.1 AAQ.2.2).bind λAAR=>(some (AAR.1,AAR.2.1,AAR.2.2)))
/-! ### rat_Inv: function 109 -/
def Q3.f (k:Nat) (EN:Bool) (FY Fz:List Int):Option (Bool × List Int × List Int × Int):=(DB.f k FY).bind λARN=>(if ARN=0 then(some (false,([]:List Int),([]:List Int),4)) else((Ay.f k Fz).bind λARO=>((Ay.f k FY).bind λARP=>(some (EN,ARO,ARP,0)))))
/-! ### rat_Div: function 108 -/
def L7.f (k:Nat) (EN:Bool) (FY Fz:List Int) (D6:Bool) (OY NR:List Int):Option (Bool × List Int × List Int × Int):=(Q3.f k D6 OY NR).bind λwK=>(if wK.2.2.2=0 then((Kz.f k EN FY Fz wK.1 wK.2.1 wK.2.2.1).bind λAFj=>(some (AFj.1,AFj.2.1,AFj.2.2,0))) else(some (false,([]:List Int),([]:List Int),wK.2.2.2)))
/-! ### bank_Bank_exact: function by hand -/
def Ey.f (k:Nat) (Ab Ae:Int) (Af:List (Int × Int × Int × Bool × (List Int) × List Int)) (Ah Ai:List Bool) (BH BK:Int) (BL:Bool) (BJ a1:Int) (EA:Bool) (FZ Fa:List Int) (OZ:Bool) (Oa Ob:List Int):Option (Bool × List Int × List Int × Int × Int × List (Int × Int × Int × Bool × (List Int) × List Int) × List Bool × List Bool × Int × Int × Bool × Int):=if a1=3 then((L5.f k EA FZ Fa).bind λAW=>(some (AW.1,AW.2.1,AW.2.2,Ab,Ae,Af,Ah,Ai,BH,BK,BL,BJ))) else(if a1=4 then((Ky.f k EA FZ Fa OZ Oa Ob).bind λCQ=>(some (CQ.1,CQ.2.1,CQ.2.2,Ab,Ae,Af,Ah,Ai,BH,BK,BL,BJ))) else(if a1=5 then((L6.f k EA FZ Fa OZ Oa Ob).bind λJp=>(some (Jp.1,Jp.2.1,Jp.2.2,Ab,Ae,Af,Ah,Ai,BH,BK,BL,BJ))) else(if a1=6 then((Kz.f k EA FZ Fa OZ Oa Ob).bind λC5=>(some (C5.1,C5.2.1,C5.2.2,Ab,Ae,Af,Ah,Ai,BH,BK,BL,BJ))) else(if a1=7 then((L7.f k EA FZ Fa OZ Oa Ob).bind λHF=>((BU.f k Ab Ae Af Ah Ai BH BK BL BJ HF.2.2.2).bind λFw=>(some (HF.1,HF.2.1,HF.2.2.1,Fw.1,Fw.2.1,Fw.2.2.1,Fw.2.2.2.1,Fw.2.2.2.2.1,Fw.2.2.2.2.2.1,Fw.2.2.2.2.2.2.1,Fw.2.2.2.2.2.2.2.1,Fw.2.2.2.2.2.2.2.2)))) else((BU.f k Ab Ae Af Ah Ai BH BK BL BJ 6).bind λIe=>(some (false,([]:List Int),([]:List Int),Ie.1,Ie.2.1,Ie.2.2.1,Ie.2.2.2.1,Ie.2.2.2.2.1,Ie.2.2.2.2.2.1,Ie.2.2.2.2.2.2.1,Ie.2.2.2.2.2.2.2.1,Ie.2.2.2.2.2.2.2.2)))))))
/-! ### fbits_exponent: function 85 -/
def DX.f (a0:Int):Option (Int):=some (wrap64 (Go.bits .and .u64 (a0/4503599627370496) 2047))
/-! ### fbits_Kind: function 39 -/
def BM.f (a0:Int):Option (Int):=(DX.f a0).bind λAMi=>(if AMi=2047 then(if(Go.bits .and .u64 a0 4503599627370495)=0 then(some 3) else(some 4)) else(if AMi=0 then(if(Go.bits .and .u64 a0 4503599627370495)=0 then(some 0) else(some 1)) else(some 2)))
/-! ### fbits_Nan: function 32 -/
def CG.f  :Option (Int):=some 9221120237041090560
/-! ### fbits_Flip: function 45 -/
def Gd.f (a0:Int):Option (Int):=(BM.f a0).bind λAMj=>(if AMj=4 then((CG.f).bind λAMk=>(some AMk)) else(some (Go.bits .xor .u64 a0 9223372036854775808)))
/-! ### fbits_signed: function 86 -/
def Db.f (a0:Bool) (a1:Int):Option (Int):=if a0=true then(some (Go.bits .or .u64 a1 9223372036854775808)) else(some a1)
/-! ### fbits_Inf: function 34 -/
def Ch.f (a0:Bool):Option (Int):=(Db.f a0 9218868437227405312).bind λARQ=>(some ARQ)
/-! ### fbits_Make: function 25 -/
mutual
def BO.j0 (k:Nat) (x0:Bool) (x1 x2:Int) (oa:Bool):Option (Int × Bool):=if oa=true then(some (0,false)) else((BV.f k x1).bind λADW=>(if(mx (wrap64 ((wrap64 (x2+ADW))-53)) (-1074))>971 then(BO.j1 k x0 x1 (mx (wrap64 ((wrap64 (x2+ADW))-53)) (-1074)) (wrap64 ((mx (wrap64 ((wrap64 (x2+ADW))-53)) (-1074))-x2)) true) else(BO.j1 k x0 x1 (mx (wrap64 ((wrap64 (x2+ADW))-53)) (-1074)) (wrap64 ((mx (wrap64 ((wrap64 (x2+ADW))-53)) (-1074))-x2)) (decide ((wrap64 ((mx (wrap64 ((wrap64 (x2+ADW))-53)) (-1074))-x2))>=64)))))
def BO.j2 (k:Nat) (x0:Bool) (x1 x8:Int):Option (Int × Bool):=if x1<4503599627370496 then((Db.f x0 x1).bind λARR=>(some (ARR,true))) else((Db.f x0 (Go.bits .or .u64 (IntKind.u64.wrap ((IntKind.u64.wrap (wrap64 (x8+1075)))*4503599627370496)) (Go.bits .and .u64 x1 4503599627370495))).bind λARS=>(some (ARS,true)))
def BO.j1 (k:Nat) (x0:Bool) (x1 x8 x9:Int) (x33:Bool):Option (Int × Bool):=if x33=true then(some (0,false)) else(if x9>0 then(if 0<=x9 then(if(shl .u64 (shr .u64 x1 x9) x9)=x1 then(BO.j2 k x0 (shr .u64 x1 x9) x8) else(some (0,false))) else(none)) else(if 0<=(wrap64 (-x9)) then(BO.j2 k x0 (shl .u64 x1 (wrap64 (-x9))) x8) else(none)))
end
def BO.f (k:Nat) (a0:Bool) (a1 a2:Int):Option (Int × Bool):=if a1=0 then((Db.f a0 0).bind λART=>(some (ART,true))) else(if a2>2000 then(BO.j0 k a0 a1 a2 true) else(BO.j0 k a0 a1 a2 (decide (a2<(-2000)))))
/-! ### fround_made: function 92 -/
def Cr.f (k:Nat) (a0:Bool) (a1 a2:Int):Option (Int):=(BO.f k a0 a1 a2).bind λAJp=>(if AJp.2=true then(some AJp.1) else((Ch.f a0).bind λARU=>(some ARU)))
/-! ### fround_even: function 93 -/
def FM.f (a0:Int) (a1 a2:Bool):Option (Int):=if a1=true then(if a2=true then(some (IntKind.u64.wrap (a0+1))) else(if(Go.bits .and .u64 a0 1)=1 then(some (IntKind.u64.wrap (a0+1))) else(some a0))) else(some a0)
/-! ### fround_Word: function 36 -/
def BE.f (k:Nat) (a0:Bool) (a1 a2:Int):Option (Int):=if a1=0 then((Cr.f k a0 0 0).bind λARV=>(some ARV)) else((BV.f k a1).bind λgA=>(if(mx (wrap64 ((wrap64 (gA+(mn (mx a2 (-1099511627776)) 1099511627776)))-53)) (-1074))>971 then((Ch.f a0).bind λARW=>(some ARW)) else(if(wrap64 ((mx (wrap64 ((wrap64 (gA+(mn (mx a2 (-1099511627776)) 1099511627776)))-53)) (-1074))-(mn (mx a2 (-1099511627776)) 1099511627776)))<=0 then(if 0<=(wrap64 (-(wrap64 ((mx (wrap64 ((wrap64 (gA+(mn (mx a2 (-1099511627776)) 1099511627776)))-53)) (-1074))-(mn (mx a2 (-1099511627776)) 1099511627776))))) then((Cr.f k a0 (shl .u64 a1 (wrap64 (-(wrap64 ((mx (wrap64 ((wrap64 (gA+(mn (mx a2 (-1099511627776)) 1099511627776)))-53)) (-1074))-(mn (mx a2 (-1099511627776)) 1099511627776)))))) (mx (wrap64 ((wrap64 (gA+(mn (mx a2 (-1099511627776)) 1099511627776)))-53)) (-1074))).bind λARX=>(some ARX)) else(none)) else(if(wrap64 ((mx (wrap64 ((wrap64 (gA+(mn (mx a2 (-1099511627776)) 1099511627776)))-53)) (-1074))-(mn (mx a2 (-1099511627776)) 1099511627776)))>64 then((Cr.f k a0 0 0).bind λARY=>(some ARY)) else(if 0<=(wrap64 (64-(wrap64 ((mx (wrap64 ((wrap64 (gA+(mn (mx a2 (-1099511627776)) 1099511627776)))-53)) (-1074))-(mn (mx a2 (-1099511627776)) 1099511627776))))) then(if 0<=(wrap64 ((wrap64 ((mx (wrap64 ((wrap64 (gA+(mn (mx a2 (-1099511627776)) 1099511627776)))-53)) (-1074))-(mn (mx a2 (-1099511627776)) 1099511627776)))-1)) then((FM.f (shr .u64 (a1/2) (wrap64 ((wrap64 ((mx (wrap64 ((wrap64 (gA+(mn (mx a2 (-1099511627776)) 1099511627776)))-53)) (-1074))-(mn (mx a2 (-1099511627776)) 1099511627776)))-1))) (((shl .u64 a1 (wrap64 (64-(wrap64 ((mx (wrap64 ((wrap64 (gA+(mn (mx a2 (-1099511627776)) 1099511627776)))-53)) (-1074))-(mn (mx a2 (-1099511627776)) 1099511627776))))))/9223372036854775808)==1) ((IntKind.u64.wrap ((shl .u64 a1 (wrap64 (64-(wrap64 ((mx (wrap64 ((wrap64 (gA+(mn (mx a2 (-1099511627776)) 1099511627776)))-53)) (-1074))-(mn (mx a2 (-1099511627776)) 1099511627776))))))*2)) !=0)).bind λARZ=>((Cr.f k a0 ARZ (mx (wrap64 ((wrap64 (gA+(mn (mx a2 (-1099511627776)) 1099511627776)))-53)) (-1074))).bind λARa=>(some ARa))) else(none)) else(none))))))
/-! ### fsum_odd: function 146 -/
def MM.f (a0 a1:Int):Option (Int):=if a1>63 then(some (mn a0 1)) else(if 0<=a1 then(if(shl .u64 (shr .u64 a0 a1) a1)=a0 then(some (shr .u64 a0 a1)) else(some (Go.bits .or .u64 (shr .u64 a0 a1) 1))) else(none))
/-! ### fsum_finite: function 104 -/
def De.j0 (k:Nat) (jm:Bool) (Tg GJ:Int) (wL:Bool) (AFk Ip:Int):Option (Int):=if 0<=(mn (wrap64 (GJ-Ip)) 10) then((MM.f AFk (wrap64 ((wrap64 (GJ-(mn (wrap64 (GJ-Ip)) 10)))-Ip))).bind λwM=>(if(jm==wL)=true then((BE.f k jm (IntKind.u64.wrap ((IntKind.u64.wrap (Tg*2^(mn (wrap64 (GJ-Ip)) 10).toNat))+wM)) (wrap64 (GJ-(mn (wrap64 (GJ-Ip)) 10)))).bind λAMl=>(some AMl)) else(if(IntKind.u64.wrap (Tg*2^(mn (wrap64 (GJ-Ip)) 10).toNat))>wM then((BE.f k jm (IntKind.u64.wrap ((IntKind.u64.wrap (Tg*2^(mn (wrap64 (GJ-Ip)) 10).toNat))-wM)) (wrap64 (GJ-(mn (wrap64 (GJ-Ip)) 10)))).bind λAMm=>(some AMm)) else(if(IntKind.u64.wrap (Tg*2^(mn (wrap64 (GJ-Ip)) 10).toNat))<wM then((BE.f k wL (IntKind.u64.wrap (wM-(IntKind.u64.wrap (Tg*2^(mn (wrap64 (GJ-Ip)) 10).toNat)))) (wrap64 (GJ-(mn (wrap64 (GJ-Ip)) 10)))).bind λAMn=>(some AMn)) else(some 0))))) else(none)
def De.f (k:Nat) (EN:Bool) (v9 wO:Int) (D6:Bool) (Jo JT:Int):Option (Int):=if wO<JT then(De.j0 k D6 Jo JT EN v9 wO) else(De.j0 k EN v9 wO D6 Jo JT)
/-! ### fbits_Neg: function 41 -/
def Ci.f (a0:Int):Option (Bool):=some ((Go.bits .and .u64 a0 9223372036854775808) !=0)
/-! ### fbits_Parts: function 24 -/
def BI.j0 (k:Nat) (x0 x6 Jl:Int) (Ik:Bool):Option (Bool × Int × Int × Bool):=if Ik=true then(some (false,0,0,false)) else(if Jl=2 then((Ci.f x0).bind λARb=>((DX.f x0).bind λARc=>(some (ARb,Go.bits .or .u64 x6 4503599627370496,wrap64 (ARc-1075),true)))) else((Ci.f x0).bind λARd=>(some (ARd,x6,(-1074),true))))
def BI.f (k:Nat) (a0:Int):Option (Bool × Int × Int × Bool):=(BM.f a0).bind λAFl=>(if AFl=3 then(BI.j0 k a0 (Go.bits .and .u64 a0 4503599627370495) AFl (AFl==3)) else(BI.j0 k a0 (Go.bits .and .u64 a0 4503599627370495) AFl (AFl==4)))
/-! ### fsum_of: function 105 -/
def Om.f (k:Nat) (a0:Int):Option (Bool × Int × Int):=(BI.f k a0).bind λAAS=>(some (AAS.1,AAS.2.1,AAS.2.2.1))
/-! ### fsum_Add: function 55 -/
mutual
def Bf.j0:Nat->Int->Int->Int->Int->Bool->Option (Int)
 | 0,_,_,_,_,_=>none
 | k+1,x0,x1,x5,x6,Ik=>if Ik=true then((CG.f).bind λAMo=>(some AMo)) else(if x5=3 then(if x6=3 then(Bf.j1 k x0 x1 x5 x6 (x0 !=x1)) else(Bf.j1 k x0 x1 x5 x6 false)) else(Bf.j1 k x0 x1 x5 x6 false))
def Bf.j1:Nat->Int->Int->Int->Int->Bool->Option (Int)
 | 0,_,_,_,_,_=>none
 | k+1,x0,x1,x5,x6,oa=>if oa=true then((CG.f).bind λAMp=>(some AMp)) else(if x5=3 then(some x0) else(if x6=3 then(some x1) else((Om.f k x0).bind λAAT=>((Om.f k x1).bind λAAU=>((De.f k AAT.1 AAT.2.1 AAT.2.2 AAU.1 AAU.2.1 AAU.2.2).bind λAMq=>(some AMq))))))
end
def Bf.f (k:Nat) (a0 a1:Int):Option (Int):=(BM.f a0).bind λAFm=>((BM.f a1).bind λAFn=>(if AFm=4 then(Bf.j0 k a0 a1 AFm AFn true) else(Bf.j0 k a0 a1 AFm AFn (AFn==4))))
/-! ### fsum_Sub: function 57 -/
def H7.f (k:Nat) (a0 a1:Int):Option (Int):=(Gd.f a1).bind λAMr=>((Bf.f k a0 AMr).bind λAMs=>(some AMs))
/-! ### fprod_Mul: function 66 -/
mutual
def Aq.j0:Nat->Int->Int->Int->Int->Bool->Bool->Option (Int)
 | 0,_,_,_,_,_,_=>none
 | k+1,x0,x1,x5,x6,x7,cV=>if cV=true then((CG.f).bind λAMt=>(some AMt)) else(if x5=3 then(Aq.j1 k x0 x1 x5 x6 x7 true) else(Aq.j1 k x0 x1 x5 x6 x7 (x6==3)))
def Aq.j1:Nat->Int->Int->Int->Int->Bool->Bool->Option (Int)
 | 0,_,_,_,_,_,_=>none
 | k+1,x0,x1,x5,x6,x7,x37=>if x37=true then(if x5=0 then(Aq.j2 k x7 true) else(Aq.j2 k x7 (x6==0))) else((BI.f k x0).bind λrW=>((BI.f k x1).bind λrX=>((Dr.f rW.2.1 rX.2.1).bind λXS=>((BV.f k XS.1).bind λWO=>(if WO=0 then((BE.f k x7 XS.2 (wrap64 (rW.2.2.1+rX.2.2.1))).bind λAMu=>(some AMu)) else(if 0<=(wrap64 (64-WO)) then(if 0<=WO then(if(shl .u64 XS.2 (wrap64 (64-WO)))=0 then((BE.f k x7 (Go.bits .or .u64 (shl .u64 XS.1 (wrap64 (64-WO))) (shr .u64 XS.2 WO)) (wrap64 ((wrap64 (rW.2.2.1+rX.2.2.1))+WO))).bind λAMv=>(some AMv)) else((BE.f k x7 (Go.bits .or .u64 (Go.bits .or .u64 (shl .u64 XS.1 (wrap64 (64-WO))) (shr .u64 XS.2 WO)) 1) (wrap64 ((wrap64 (rW.2.2.1+rX.2.2.1))+WO))).bind λAMw=>(some AMw))) else(none)) else(none)))))))
def Aq.j2:Nat->Bool->Bool->Option (Int)
 | 0,_,_=>none
 | k+1,x7,x49=>if x49=true then((CG.f).bind λAMx=>(some AMx)) else((Ch.f x7).bind λAMy=>(some AMy))
end
def Aq.f (k:Nat) (a0 a1:Int):Option (Int):=(BM.f a0).bind λAFo=>((BM.f a1).bind λAFp=>((Ci.f a0).bind λAJq=>((Ci.f a1).bind λAJr=>(if AFo=4 then(Aq.j0 k a0 a1 AFo AFp (!(AJq==AJr)) true) else(Aq.j0 k a0 a1 AFo AFp (!(AJq==AJr)) (AFp==4))))))
/-! ### fprod_signed: function 121 -/
def GK.f (k:Nat) (a0:Bool):Option (Int):=(BO.f k a0 0 0).bind λALE=>(some ALE.1)
/-! ### fprod_Div: function 68 -/
mutual
def Bj.j0:Nat->Int->Int->Int->Int->Bool->Bool->Option (Int)
 | 0,_,_,_,_,_,_=>none
 | k+1,x0,x1,x5,x6,x7,rV=>if rV=true then((CG.f).bind λAMz=>(some AMz)) else(if x5=3 then(Bj.j1 k x0 x1 x5 x6 x7 true) else(Bj.j1 k x0 x1 x5 x6 x7 (x6==0)))
def Bj.j1:Nat->Int->Int->Int->Int->Bool->Bool->Option (Int)
 | 0,_,_,_,_,_,_=>none
 | k+1,x0,x1,x5,x6,x7,x51=>if x51=true then((Ch.f x7).bind λAM0=>(some AM0)) else(if x5=0 then((GK.f k x7).bind λAM1=>(some AM1)) else(if x6=3 then((GK.f k x7).bind λAM2=>(some AM2)) else((BI.f k x0).bind λrY=>((BI.f k x1).bind λrZ=>((BV.f k rY.2.1).bind λACH=>((BV.f k rZ.2.1).bind λACI=>(if 0<=(wrap64 (63-ACH)) then(if 0<=(wrap64 (64-ACI)) then((Il.f k (shl .u64 rY.2.1 (wrap64 (63-ACH))) 0 (shl .u64 rZ.2.1 (wrap64 (64-ACI)))).bind λAAV=>(if AAV.2.1=0 then((BE.f k x7 AAV.1 (wrap64 ((wrap64 ((wrap64 ((wrap64 (rY.2.2.1-(wrap64 (63-ACH))))-rZ.2.2.1))+(wrap64 (64-ACI))))-64))).bind λAM3=>(some AM3)) else((BE.f k x7 (Go.bits .or .u64 AAV.1 1) (wrap64 ((wrap64 ((wrap64 ((wrap64 (rY.2.2.1-(wrap64 (63-ACH))))-rZ.2.2.1))+(wrap64 (64-ACI))))-64))).bind λAM4=>(some AM4)))) else(none)) else(none))))))))
end
def Bj.f (k:Nat) (a0 a1:Int):Option (Int):=(BM.f a0).bind λYp=>((BM.f a1).bind λjo=>((Ci.f a0).bind λwP=>((Ci.f a1).bind λwQ=>(if Yp=4 then(Bj.j0 k a0 a1 Yp jo (!(wP==wQ)) true) else(if jo=4 then(Bj.j0 k a0 a1 Yp jo (!(wP==wQ)) true) else(if Yp=jo then(if Yp=3 then(Bj.j0 k a0 a1 Yp jo (!(wP==wQ)) true) else(Bj.j0 k a0 a1 Yp jo (!(wP==wQ)) (Yp==0))) else(Bj.j0 k a0 a1 Yp jo (!(wP==wQ)) false)))))))
/-! ### fprod_root: function 219 -/
def CS.l0:Nat->Int->Int->Int->Option (Int × Bool)
 | 0,_,_,_=>none
 | k+1,x0,x4,x5=>if x5>0 then((Dr.f (Go.bits .or .u64 x4 x5) (Go.bits .or .u64 x4 x5)).bind λAAW=>(if AAW.1<x0 then(CS.l0 k x0 (Go.bits .or .u64 x4 x5) (x5/2)) else(if AAW.1=x0 then(if AAW.2=0 then(CS.l0 k x0 (Go.bits .or .u64 x4 x5) (x5/2)) else(CS.l0 k x0 x4 (x5/2))) else(CS.l0 k x0 x4 (x5/2))))) else((Dr.f x4 x4).bind λAFq=>(if AFq.1=x0 then(some (x4,(AFq.2==0))) else(some (x4,false))))
def CS.f (k:Nat) (a0:Int):Option (Int × Bool):=CS.l0 k a0 0 9223372036854775808
/-! ### fprod_Sqrt: function 149 -/
def Ca.j0:Nat->Int->Int->Int->Option (Int)
 | 0,_,_,_=>none
 | k+1,x4,x5,x7=>if 0<=(wrap64 (x7-64)) then((CS.f k (shl .u64 x4 (wrap64 (x7-64)))).bind λAAX=>(if AAX.2=true then((BE.f k false AAX.1 (wrap64 (Int.tdiv (wrap64 (x5-x7)) 2))).bind λAM5=>(some AM5)) else((BE.f k false (Go.bits .or .u64 AAX.1 1) (wrap64 (Int.tdiv (wrap64 (x5-x7)) 2))).bind λAM6=>(some AM6)))) else(none)
def Ca.f (k:Nat) (a0:Int):Option (Int):=(BM.f a0).bind λAFr=>(if AFr=4 then((CG.f).bind λAM7=>(some AM7)) else(if AFr=3 then((Ci.f a0).bind λAM8=>(if AM8=true then((CG.f).bind λAM9=>(some AM9)) else(some a0))) else(if AFr=0 then(some a0) else((Ci.f a0).bind λANA=>(if ANA=true then((CG.f).bind λANB=>(some ANB)) else((BI.f k a0).bind λbE=>((BV.f k bE.2.1).bind λAFs=>(if(Go.bits .and .i64 (wrap64 (bE.2.2.1-(wrap64 (126-AFs)))) 1)=0 then(Ca.j0 k bE.2.1 bE.2.2.1 (wrap64 (126-AFs))) else(Ca.j0 k bE.2.1 bE.2.2.1 (wrap64 ((wrap64 (126-AFs))-1)))))))))))
/-! ### fcmp_known: function 98 -/
def Iq.f (a0 a1:Int):Option (Bool):=(BM.f a0).bind λANC=>(if ANC=4 then(some false) else((BM.f a1).bind λANE=>(some (ANE !=4))))
/-! ### fcmp_key: function 99 -/
def K1.f (a0:Int):Option (Int):=(Ci.f a0).bind λAFh=>(if AFh=true then(some (wrap64 (-(wrap64 ((IntKind.u64.wrap (a0*2))/2))))) else(some (wrap64 ((IntKind.u64.wrap (a0*2))/2))))
/-! ### fcmp_Less: function 48 -/
def Em.f (a0 a1:Int):Option (Bool):=(Iq.f a0 a1).bind λANF=>(if ANF=true then((K1.f a0).bind λANG=>((K1.f a1).bind λAFi=>(some (decide (ANG<AFi))))) else(some false))
/-! ### fcmp_Near: function 51 -/
mutual
def CH.j0:Nat->Bool->Int->Int->Bool->Option (Int × Bool)
 | 0,_,_,_,_=>none
 | k+1,x4,x5,x6,x25=>if x25=true then(some (0,false)) else(if x6>=0 then(if 0<=x6 then(if x4=true then(some (wrap64 (-(wrap64 (shl .u64 x5 x6))),true)) else(some (wrap64 (shl .u64 x5 x6),true))) else(none)) else(if x6>(-64) then(if 0<=(wrap64 (-x6)) then(if 0<=(wrap64 (64+x6)) then(if(shl .u64 x5 (wrap64 (64+x6)))>9223372036854775808 then(CH.j1 k x4 (wrap64 (shr .u64 x5 (wrap64 (-x6)))) true) else(if(shl .u64 x5 (wrap64 (64+x6)))=9223372036854775808 then(CH.j1 k x4 (wrap64 (shr .u64 x5 (wrap64 (-x6)))) ((Go.bits .and .i64 (wrap64 (shr .u64 x5 (wrap64 (-x6)))) 1)==1)) else(CH.j1 k x4 (wrap64 (shr .u64 x5 (wrap64 (-x6)))) false))) else(none)) else(none)) else(if x4=true then(some (-0,true)) else(some (0,true)))))
def CH.j1:Nat->Bool->Int->Bool->Option (Int × Bool)
 | 0,_,_,_=>none
 | k+1,x4,x8,x55=>if x55=true then(if x4=true then(some (wrap64 (-(wrap64 (x8+1))),true)) else(some (wrap64 (x8+1),true))) else(if x4=true then(some (wrap64 (-x8),true)) else(some (x8,true)))
end
def CH.f (k:Nat) (a0:Int):Option (Int × Bool):=(BI.f k a0).bind λQ4=>(if Q4.2.2.2=true then((BV.f k Q4.2.1).bind λANH=>(CH.j0 k Q4.1 Q4.2.1 Q4.2.2.1 (decide ((wrap64 (ANH+Q4.2.2.1))>62)))) else(CH.j0 k Q4.1 Q4.2.1 Q4.2.2.1 true))
/-! ### fbits_Clean: function 43 -/
def FN.f (a0:Int):Option (Int):=(BM.f a0).bind λANI=>(if ANI=4 then((CG.f).bind λANJ=>(some ANJ)) else(some a0))
/-! ### fcmp_Scale: function 53 -/
def KJ.f (k:Nat) (a0 a1:Int):Option (Int):=(BI.f k a0).bind λrj=>(if rj.2.2.2=true then((BE.f k rj.1 rj.2.1 (wrap64 (rj.2.2.1+(mn (mx a1 (-5000)) 5000)))).bind λANK=>(some ANK)) else((FN.f a0).bind λANL=>(some ANL)))
/-! ### fround_FromInt: function 64 -/
def Cx.f (k:Nat) (a0:Int):Option (Int):=if a0<0 then((BE.f k true (IntKind.u64.wrap (-(IntKind.u64.wrap (a0)))) 0).bind λARe=>(some ARe)) else((BE.f k false (IntKind.u64.wrap (a0)) 0).bind λARf=>(some ARf))
/-! ### kernel_part: function 126 -/
def EW.f (k:Nat) (a0:Int):Option (Int):=(Cx.f k a0).bind λANM=>((Bj.f k 4607182418800017408 ANM).bind λANN=>(some ANN))
/-! ### kernel_Exp: function by hand -/
def Bv.l1:Nat->Int->Int->List Int->Int->Int->Option (Int)
 | 0,_,_,_,_,_=>none
 | k+1,e,r,fs,p,i=>if i>=0 then((Aq.f k p r).bind λt=>(if 0<=i then(if i<14 then(if i<(fs.length:Int) then((EW.f k (rd fs i)).bind λu=>((Bf.f k t u).bind λv=>(Bv.l1 k e r fs v (wrap64 (i-1))))) else none) else none) else none)) else((KJ.f k p e).bind λs=>(some s))
def Bv.l0:Nat->Int->Int->List Int->Int->Option (Int)
 | 0,_,_,_,_=>none
 | k+1,e,r,fs,i=>if i<13 then(if 0<=(wrap64 (i+1)) then(if(wrap64 (i+1))<14 then(if(wrap64 (i+1))<(fs.length:Int) then(if 0<=i then(if i<14 then(if i<(fs.length:Int) then(Bv.l0 k e r (fs.set ((wrap64 (i+1)):Int).toNat (wrap64 ((rd fs i)*(wrap64 (i+1))))) (wrap64 (i+1))) else none) else none) else none) else none) else none) else none) else(if(13:Int)<(fs.length:Int) then((EW.f k (rd fs 13)).bind λp=>(Bv.l1 k e r fs p 12)) else none)
def Bv.f (k:Nat) (a0:Int):Option (Int):=(BM.f a0).bind λt0=>(if t0=4 then((CG.f).bind λt=>(some t)) else((Em.f 4649456441864749056 a0).bind λt1=>(if t1=true then((Ch.f false).bind λt=>(some t)) else((Em.f a0 13873145138068324352).bind λt2=>(if t2=true then(some 0) else((Aq.f k a0 4609176140021203710).bind λt3=>((CH.f k t3).bind λC5=>((Cx.f k C5.1).bind λt5=>((Aq.f k t5 4604418534311723008).bind λt6=>((H7.f k a0 t6).bind λt7=>((Aq.f k t5 4461442080421002358).bind λt8=>((H7.f k t7 t8).bind λt9=>(Bv.l0 k C5.1 t9 [1,0,0,0,0,0,0,0,0,0,0,0,0,0] 0)))))))))))))
/-! ### kernel_split: function 129 -/
def Hg.f (k:Nat) (a0:Int):Option (Int × Int):=(BI.f k a0).bind λjq=>((BV.f k jq.2.1).bind λACJ=>((BO.f k false jq.2.1 (wrap64 (1-ACJ))).bind λAFt=>((Em.f 4609047870845172685 AFt.1).bind λANO=>(if ANO=true then((BO.f k false jq.2.1 (wrap64 (-ACJ))).bind λALF=>(some (ALF.1,wrap64 (jq.2.2.1+ACJ)))) else(some (AFt.1,wrap64 ((wrap64 (jq.2.2.1+ACJ))-1)))))))
/-! ### kernel_Log: function 75 -/
mutual
def B3.j0:Nat->Int->Int->Bool->Option (Int)
 | 0,_,_,_=>none
 | k+1,x0,x3,aV=>if aV=true then((CG.f).bind λANP=>(some ANP)) else(if x3=3 then(some x0) else((Hg.f k x0).bind λAFu=>((H7.f k AFu.1 4607182418800017408).bind λAJs=>((Bf.f k 4611686018427387904 AJs).bind λANQ=>((Bj.f k AJs ANQ).bind λAFv=>((Aq.f k AFv AFv).bind λANR=>((EW.f k 21).bind λANS=>(B3.l0 k AFu.2 AFv ANR ANS 9))))))))
def B3.l0:Nat->Int->Int->Int->Int->Int->Option (Int)
 | 0,_,_,_,_,_=>none
 | k+1,x5,x7,x8,x9,Jl=>if Jl>0 then((Aq.f k x9 x8).bind λANT=>((EW.f k (wrap64 ((wrap64 (2*Jl))+1))).bind λANU=>((Bf.f k ANT ANU).bind λANV=>(B3.l0 k x5 x7 x8 ANV (wrap64 (Jl-1)))))) else((Bf.f k x7 x7).bind λAJt=>((Aq.f k x9 x8).bind λANW=>((Aq.f k AJt ANW).bind λANX=>((Bf.f k AJt ANX).bind λAJu=>(if x5=0 then(some AJu) else((Cx.f k x5).bind λAJv=>((Aq.f k AJv 4604418534311723008).bind λANY=>((Aq.f k AJv 4461442080421002358).bind λANZ=>((Bf.f k AJu ANZ).bind λANa=>((Bf.f k ANY ANa).bind λANb=>(some ANb)))))))))))
end
def B3.f (k:Nat) (a0:Int):Option (Int):=(BM.f a0).bind λACK=>(if ACK=0 then((Ch.f true).bind λANc=>(some ANc)) else(if ACK=4 then(B3.j0 k a0 ACK true) else((Ci.f a0).bind λANd=>(B3.j0 k a0 ACK ANd))))
/-! ### bank_double: function by hand -/
def Ir.f (k:Nat) (a0 a1 a2:Int):Option (Int):=if a0=3 then((Gd.f a1).bind λt1=>(some t1)) else(if a0=4 then((Bf.f k a1 a2).bind λt2=>(some t2)) else(if a0=5 then((H7.f k a1 a2).bind λt3=>(some t3)) else(if a0=6 then((Aq.f k a1 a2).bind λt4=>(some t4)) else(if a0=7 then((Bj.f k a1 a2).bind λt5=>(some t5)) else(if a0=8 then((Ca.f k a1).bind λt6=>(some t6)) else(if a0=9 then((Bv.f k a1).bind λt7=>(some t7)) else((B3.f k a1).bind λt8=>(some t8))))))))
/-! ### bank_Bank_do: function by hand -/
mutual
def AO.j15:Nat->Bool->List Int->List Int->Int->Int->Bool->List Int->List Int->Int->Int->Int->Int->(List (Int × Int × Int × Bool × (List Int) × List Int))->List Bool->List Bool->Int->Int->Bool->Int->Option (Bool × List Int × List Int × Int × Int × Int × Int × List (Int × Int × Int × Bool × (List Int) × List Int) × List Bool × List Bool × Int × Int × Bool × Int)
 | 0,_,_,_,_,_,_,_,_,_,_,_,_,_,_,_,_,_,_,_=>none
 | k+1,Th,Ti,Tj,Tk,Tl,Mx,My,Mz,M4,M5,QE,QF,QG,QH,QI,QJ,QK,QL,On=>if On=0 then(some (Mx,My,Mz,M4,M5,QE,QF,QG,QH,QI,QJ,QK,QL,On)) else(some (false,([]:List Int),([]:List Int),0,0,QE,QF,QG,QH,QI,QJ,(wrap64 (QK-1)),QL,On))
def AO.j7:Nat->Int->Bool->Bool->List Int->List Int->Int->Int->Bool->List Int->List Int->Int->Int->Bool->List Int->List Int->Int->Int->Bool->List Int->List Int->Int->Int->Int->Int->(List (Int × Int × Int × Bool × (List Int) × List Int))->List Bool->List Bool->Int->Int->Bool->Int->Option (Bool × List Int × List Int × Int × Int × Int × Int × List (Int × Int × Int × Bool × (List Int) × List Int) × List Bool × List Bool × Int × Int × Bool × Int)
 | 0,_,_,_,_,_,_,_,_,_,_,_,_,_,_,_,_,_,_,_,_,_,_,_,_,_,_,_,_,_,_,_=>none
 | k+1,x1,x4,ADT,ADU,ANe,ANf,AIP,rN,rO,AFw,AFx,ADX,Th,Ti,Tj,Tk,Tl,Mx,My,Mz,M4,M5,QE,QF,QG,QH,QI,QJ,QK,QL,On=>if x4=true then(AO.j10 k Th Ti Tj Tk Tl Mx My Mz M4 M5 x1 AIP ADX false [] [] QE QF QG QH QI QJ QK QL On) else(AO.j10 k Th Ti Tj Tk Tl Mx My Mz M4 M5 x1 AIP 0 false [] [] QE QF QG QH QI QJ QK QL On)
def AO.j10:Nat->Bool->List Int->List Int->Int->Int->Bool->List Int->List Int->Int->Int->Int->Int->Int->Bool->List Int->List Int->Int->Int->(List (Int × Int × Int × Bool × (List Int) × List Int))->List Bool->List Bool->Int->Int->Bool->Int->Option (Bool × List Int × List Int × Int × Int × Int × Int × List (Int × Int × Int × Bool × (List Int) × List Int) × List Bool × List Bool × Int × Int × Bool × Int)
 | 0,_,_,_,_,_,_,_,_,_,_,_,_,_,_,_,_,_,_,_,_,_,_,_,_,_=>none
 | k+1,Th,Ti,Tj,Tk,Tl,Mx,My,Mz,M4,M5,AFy,AFz,AF0,AF1,AF2,AF3,QE,QF,QG,QH,QI,QJ,QK,QL,On=>(CE.f k QE QF QG QH QI QJ QK QL On AFy AFz AF0 AF1 AF2 AF3).bind λFw=>(AO.j15 k Th Ti Tj Tk Tl Fw.1 Fw.2.1 Fw.2.2.1 Fw.2.2.2.1 Fw.2.2.2.2.1 Fw.2.2.2.2.2.1 Fw.2.2.2.2.2.2.1 Fw.2.2.2.2.2.2.2.1 Fw.2.2.2.2.2.2.2.2.1 Fw.2.2.2.2.2.2.2.2.2.1 Fw.2.2.2.2.2.2.2.2.2.2.1 Fw.2.2.2.2.2.2.2.2.2.2.2.1 Fw.2.2.2.2.2.2.2.2.2.2.2.2.1 Fw.2.2.2.2.2.2.2.2.2.2.2.2.2)
end
def AO.f (k:Nat) (Ab Ae:Int) (Af:List (Int × Int × Int × Bool × (List Int) × List Int)) (Ah Ai:List Bool) (BH BK:Int) (BL:Bool) (BJ a1:Int) (EA:Bool) (FZ Fa:List Int) (H8 J3:Int) (OZ:Bool) (Oa Ob:List Int) (jr rm:Int) (a4:Bool):Option (Bool × List Int × List Int × Int × Int × Int × Int × List (Int × Int × Int × Bool × (List Int) × List Int) × List Bool × List Bool × Int × Int × Bool × Int):=(Bh.f k Ab Ae Af Ah Ai BH BK BL BJ).bind λAW=>(if AW.1=true then(some (false,([]:List Int),([]:List Int),0,0,AW.2.1,AW.2.2.1,AW.2.2.2.1,AW.2.2.2.2.1,AW.2.2.2.2.2.1,AW.2.2.2.2.2.2.1,AW.2.2.2.2.2.2.2.1,AW.2.2.2.2.2.2.2.2.1,AW.2.2.2.2.2.2.2.2.2)) else(if AW.2.1=0 then((Ey.f k AW.2.1 AW.2.2.1 AW.2.2.2.1 AW.2.2.2.2.1 AW.2.2.2.2.2.1 AW.2.2.2.2.2.2.1 (wrap64 (AW.2.2.2.2.2.2.2.1+1)) AW.2.2.2.2.2.2.2.2.1 AW.2.2.2.2.2.2.2.2.2 a1 EA FZ Fa OZ Oa Ob).bind λCQ=>(AO.j15 k false [] [] 0 0 CQ.1 CQ.2.1 CQ.2.2.1 0 0 CQ.2.2.2.1 CQ.2.2.2.2.1 CQ.2.2.2.2.2.1 CQ.2.2.2.2.2.2.1 CQ.2.2.2.2.2.2.2.1 CQ.2.2.2.2.2.2.2.2.1 CQ.2.2.2.2.2.2.2.2.2.1 CQ.2.2.2.2.2.2.2.2.2.2.1 CQ.2.2.2.2.2.2.2.2.2.2.2)) else(if AW.2.1=1 then((Ir.f k a1 H8 jr).bind λt3=>(AO.j15 k false [] [] 0 0 false ([]:List Int) ([]:List Int) t3 0 AW.2.1 AW.2.2.1 AW.2.2.2.1 AW.2.2.2.2.1 AW.2.2.2.2.2.1 AW.2.2.2.2.2.2.1 (wrap64 (AW.2.2.2.2.2.2.2.1+1)) AW.2.2.2.2.2.2.2.2.1 AW.2.2.2.2.2.2.2.2.2)) else((Co.f k AW.2.1 AW.2.2.1 AW.2.2.2.1 AW.2.2.2.2.1 AW.2.2.2.2.2.1 AW.2.2.2.2.2.2.1 (wrap64 (AW.2.2.2.2.2.2.2.1+1)) AW.2.2.2.2.2.2.2.2.1 AW.2.2.2.2.2.2.2.2.2 EA FZ Fa H8 J3).bind λC5=>(if C5.1=true then(if a4=true then((Co.f k C5.2.1 C5.2.2.1 C5.2.2.2.1 C5.2.2.2.2.1 C5.2.2.2.2.2.1 C5.2.2.2.2.2.2.1 C5.2.2.2.2.2.2.2.1 C5.2.2.2.2.2.2.2.2.1 C5.2.2.2.2.2.2.2.2.2 OZ Oa Ob jr rm).bind λHF=>(if HF.1=true then(AO.j7 k a1 a4 EA FZ Fa H8 J3 OZ Oa Ob jr rm false [] [] 0 0 false [] [] 0 0 HF.2.1 HF.2.2.1 HF.2.2.2.1 HF.2.2.2.2.1 HF.2.2.2.2.2.1 HF.2.2.2.2.2.2.1 HF.2.2.2.2.2.2.2.1 HF.2.2.2.2.2.2.2.2.1 HF.2.2.2.2.2.2.2.2.2) else(AO.j15 k false [] [] 0 0 false ([]:List Int) ([]:List Int) 0 0 HF.2.1 HF.2.2.1 HF.2.2.2.1 HF.2.2.2.2.1 HF.2.2.2.2.2.1 HF.2.2.2.2.2.2.1 HF.2.2.2.2.2.2.2.1 HF.2.2.2.2.2.2.2.2.1 HF.2.2.2.2.2.2.2.2.2))) else(AO.j7 k a1 a4 EA FZ Fa H8 J3 OZ Oa Ob jr rm false [] [] 0 0 false [] [] 0 0 C5.2.1 C5.2.2.1 C5.2.2.2.1 C5.2.2.2.2.1 C5.2.2.2.2.2.1 C5.2.2.2.2.2.2.1 C5.2.2.2.2.2.2.2.1 C5.2.2.2.2.2.2.2.2.1 C5.2.2.2.2.2.2.2.2.2)) else(AO.j15 k false [] [] 0 0 false ([]:List Int) ([]:List Int) 0 0 C5.2.1 C5.2.2.1 C5.2.2.2.1 C5.2.2.2.2.1 C5.2.2.2.2.2.1 C5.2.2.2.2.2.2.1 C5.2.2.2.2.2.2.2.1 C5.2.2.2.2.2.2.2.2.1 C5.2.2.2.2.2.2.2.2.2))))))
/-! ### bank_Bank_Add: function by hand -/
def EM.f (k:Nat) (Ab Ae:Int) (Af:List (Int × Int × Int × Bool × (List Int) × List Int)) (Ah Ai:List Bool) (BH BK:Int) (BL:Bool) (BJ:Int) (D6:Bool) (Jo JT:List Int) (LL ML:Int) (EA:Bool) (FZ Fa:List Int) (H8 J3:Int):Option (Bool × List Int × List Int × Int × Int × Int × Int × List (Int × Int × Int × Bool × (List Int) × List Int) × List Bool × List Bool × Int × Int × Bool × Int):=(AO.f k Ab Ae Af Ah Ai BH BK BL BJ 4 D6 Jo JT LL ML EA FZ Fa H8 J3 true).bind λAW=>(some (AW.1,AW.2.1,AW.2.2.1,AW.2.2.2.1,AW.2.2.2.2.1,AW.2.2.2.2.2.1,AW.2.2.2.2.2.2.1,AW.2.2.2.2.2.2.2.1,AW.2.2.2.2.2.2.2.2.1,AW.2.2.2.2.2.2.2.2.2.1,AW.2.2.2.2.2.2.2.2.2.2.1,AW.2.2.2.2.2.2.2.2.2.2.2.1,AW.2.2.2.2.2.2.2.2.2.2.2.2.1,AW.2.2.2.2.2.2.2.2.2.2.2.2.2))
/-! ### bank_Bank_Div: function by hand -/
def IE.f (k:Nat) (Ab Ae:Int) (Af:List (Int × Int × Int × Bool × (List Int) × List Int)) (Ah Ai:List Bool) (BH BK:Int) (BL:Bool) (BJ:Int) (D6:Bool) (Jo JT:List Int) (LL ML:Int) (EA:Bool) (FZ Fa:List Int) (H8 J3:Int):Option (Bool × List Int × List Int × Int × Int × Int × Int × List (Int × Int × Int × Bool × (List Int) × List Int) × List Bool × List Bool × Int × Int × Bool × Int):=(AO.f k Ab Ae Af Ah Ai BH BK BL BJ 7 D6 Jo JT LL ML EA FZ Fa H8 J3 true).bind λAW=>(some (AW.1,AW.2.1,AW.2.2.1,AW.2.2.2.1,AW.2.2.2.2.1,AW.2.2.2.2.2.1,AW.2.2.2.2.2.2.1,AW.2.2.2.2.2.2.2.1,AW.2.2.2.2.2.2.2.2.1,AW.2.2.2.2.2.2.2.2.2.1,AW.2.2.2.2.2.2.2.2.2.2.1,AW.2.2.2.2.2.2.2.2.2.2.2.1,AW.2.2.2.2.2.2.2.2.2.2.2.2.1,AW.2.2.2.2.2.2.2.2.2.2.2.2.2))
/-! ### bank_Bank_Err: function by hand -/
def IC.f (k:Nat) (Ab Ae:Int) (Af:List (Int × Int × Int × Bool × (List Int) × List Int)) (Ah Ai:List Bool) (BH BK:Int) (BL:Bool) (BJ:Int):Option (Int × Int × Int × List (Int × Int × Int × Bool × (List Int) × List Int) × List Bool × List Bool × Int × Int × Bool × Int):=some (BJ,Ab,Ae,Af,Ah,Ai,BH,BK,BL,BJ)
/-! ### bank_Bank_Exp: function by hand -/
def IF.f (k:Nat) (Ab Ae:Int) (Af:List (Int × Int × Int × Bool × (List Int) × List Int)) (Ah Ai:List Bool) (BH BK:Int) (BL:Bool) (BJ:Int) (D6:Bool) (Jo JT:List Int) (LL ML:Int):Option (Bool × List Int × List Int × Int × Int × Int × Int × List (Int × Int × Int × Bool × (List Int) × List Int) × List Bool × List Bool × Int × Int × Bool × Int):=(AO.f k Ab Ae Af Ah Ai BH BK BL BJ 9 D6 Jo JT LL ML false ([]:List Int) ([]:List Int) 0 0 false).bind λAW=>(some (AW.1,AW.2.1,AW.2.2.1,AW.2.2.2.1,AW.2.2.2.2.1,AW.2.2.2.2.2.1,AW.2.2.2.2.2.2.1,AW.2.2.2.2.2.2.2.1,AW.2.2.2.2.2.2.2.2.1,AW.2.2.2.2.2.2.2.2.2.1,AW.2.2.2.2.2.2.2.2.2.2.1,AW.2.2.2.2.2.2.2.2.2.2.2.1,AW.2.2.2.2.2.2.2.2.2.2.2.2.1,AW.2.2.2.2.2.2.2.2.2.2.2.2.2))
/-! ### rat_Sign: function 132 -/
def Is.f (k:Nat) (EN:Bool) (FY Fz:List Int):Option (Int):=(DB.f k FY).bind λARg=>(if ARg=0 then(some 0) else(if EN=true then(some (-1)) else(some 1)))
/-! ### rat_Cmp: function 120 -/
def Q5.f (k:Nat) (EN:Bool) (FY Fz:List Int) (D6:Bool) (OY NR:List Int):Option (Int):=(L6.f k EN FY Fz D6 OY NR).bind λAAY=>((Is.f k AAY.1 AAY.2.1 AAY.2.2).bind λANg=>(some ANg))
/-! ### bank_Bank_answer: function by hand -/
def Fc.f (k:Nat) (Ab Ae:Int) (Af:List (Int × Int × Int × Bool × (List Int) × List Int)) (Ah Ai:List Bool) (BH BK:Int) (BL:Bool) (BJ:Int):Option (Bool × Int × Int × List (Int × Int × Int × Bool × (List Int) × List Int) × List Bool × List Bool × Int × Int × Bool × Int):=if BH>=(Ah.length:Int) then((BU.f k Ab Ae Af Ah Ai BH BK BL BJ 20).bind λAW=>(some (false,AW.1,AW.2.1,AW.2.2.1,AW.2.2.2.1,AW.2.2.2.2.1,AW.2.2.2.2.2.1,AW.2.2.2.2.2.2.1,AW.2.2.2.2.2.2.2.1,AW.2.2.2.2.2.2.2.2))) else(if 0<=(wrap64 ((wrap64 (BH+1))-1)) then(if(wrap64 ((wrap64 (BH+1))-1))<(Ah.length:Int) then(some ((ARh Ah (wrap64 ((wrap64 (BH+1))-1))),Ab,Ae,Af,Ah,Ai,(wrap64 (BH+1)),BK,BL,BJ)) else none) else none)
/-! ### bank_Bank_Less: function by hand -/
mutual
def Am.j18:Nat->Bool->Int->Int->(List (Int × Int × Int × Bool × (List Int) × List Int))->List Bool->List Bool->Int->Int->Bool->Int->Option (Bool × Int × Int × List (Int × Int × Int × Bool × (List Int) × List Int) × List Bool × List Bool × Int × Int × Bool × Int)
 | 0,_,_,_,_,_,_,_,_,_,_=>none
 | k+1,x7,cW,cX,cY,cZ,Yq,cg,cj,ck,Yr=>if Yr=0 then(if(Yq.length+1)*1<=140737488355328 then(some (x7,cW,cX,cY,cZ,(Yq++ [x7]),cg,cj,ck,Yr)) else none) else(some (false,cW,cX,cY,cZ,Yq,cg,cj,ck,Yr))
def Am.j9:Nat->Int->Int->(List (Int × Int × Int × Bool × (List Int) × List Int))->List Bool->List Bool->Int->Int->Bool->Int->Option (Bool × Int × Int × List (Int × Int × Int × Bool × (List Int) × List Int) × List Bool × List Bool × Int × Int × Bool × Int)
 | 0,_,_,_,_,_,_,_,_,_=>none
 | k+1,cW,cX,cY,cZ,Yq,cg,cj,ck,Yr=>some (false,cW,cX,cY,cZ,Yq,cg,cj,ck,Yr)
end
def Am.f (k:Nat) (Ab Ae:Int) (Af:List (Int × Int × Int × Bool × (List Int) × List Int)) (Ah Ai:List Bool) (BH BK:Int) (BL:Bool) (BJ:Int) (D6:Bool) (Jo JT:List Int) (LL ML:Int) (EA:Bool) (FZ Fa:List Int) (H8 J3:Int):Option (Bool × Int × Int × List (Int × Int × Int × Bool × (List Int) × List Int) × List Bool × List Bool × Int × Int × Bool × Int):=(Bh.f k Ab Ae Af Ah Ai BH BK BL BJ).bind λAW=>(if AW.1=true then(some (false,AW.2.1,AW.2.2.1,AW.2.2.2.1,AW.2.2.2.2.1,AW.2.2.2.2.2.1,AW.2.2.2.2.2.2.1,AW.2.2.2.2.2.2.2.1,AW.2.2.2.2.2.2.2.2.1,AW.2.2.2.2.2.2.2.2.2)) else(if(AW.2.2.2.2.2.1.length:Int)>=65536 then((BU.f k AW.2.1 AW.2.2.1 AW.2.2.2.1 AW.2.2.2.2.1 AW.2.2.2.2.2.1 AW.2.2.2.2.2.2.1 AW.2.2.2.2.2.2.2.1 AW.2.2.2.2.2.2.2.2.1 AW.2.2.2.2.2.2.2.2.2 13).bind λCQ=>(some (false,CQ.1,CQ.2.1,CQ.2.2.1,CQ.2.2.2.1,CQ.2.2.2.2.1,CQ.2.2.2.2.2.1,CQ.2.2.2.2.2.2.1,CQ.2.2.2.2.2.2.2.1,CQ.2.2.2.2.2.2.2.2))) else(if AW.2.1=0 then((Q5.f k D6 Jo JT EA FZ Fa).bind λt3=>(if AW.2.2.2.2.2.2.2.2.1=true then(Am.j18 k (decide (t3<0)) AW.2.1 AW.2.2.1 AW.2.2.2.1 AW.2.2.2.2.1 AW.2.2.2.2.2.1 AW.2.2.2.2.2.2.1 AW.2.2.2.2.2.2.2.1 true AW.2.2.2.2.2.2.2.2.2) else(Am.j18 k (decide (t3<0)) AW.2.1 AW.2.2.1 AW.2.2.2.1 AW.2.2.2.2.1 AW.2.2.2.2.2.1 AW.2.2.2.2.2.2.1 AW.2.2.2.2.2.2.2.1 (t3==0) AW.2.2.2.2.2.2.2.2.2))) else(if AW.2.1=1 then((Em.f LL H8).bind λt4=>(if AW.2.2.2.2.2.2.2.2.1=true then(Am.j18 k t4 AW.2.1 AW.2.2.1 AW.2.2.2.1 AW.2.2.2.2.1 AW.2.2.2.2.2.1 AW.2.2.2.2.2.2.1 AW.2.2.2.2.2.2.2.1 true AW.2.2.2.2.2.2.2.2.2) else(if t4=true then(Am.j18 k t4 AW.2.1 AW.2.2.1 AW.2.2.2.1 AW.2.2.2.2.1 AW.2.2.2.2.2.1 AW.2.2.2.2.2.2.1 AW.2.2.2.2.2.2.2.1 false AW.2.2.2.2.2.2.2.2.2) else((Em.f H8 LL).bind λt5=>(Am.j18 k t4 AW.2.1 AW.2.2.1 AW.2.2.2.1 AW.2.2.2.2.1 AW.2.2.2.2.2.1 AW.2.2.2.2.2.2.1 AW.2.2.2.2.2.2.2.1 (!t5) AW.2.2.2.2.2.2.2.2.2))))) else((Co.f k AW.2.1 AW.2.2.1 AW.2.2.2.1 AW.2.2.2.2.1 AW.2.2.2.2.2.1 AW.2.2.2.2.2.2.1 AW.2.2.2.2.2.2.2.1 AW.2.2.2.2.2.2.2.2.1 AW.2.2.2.2.2.2.2.2.2 D6 Jo JT LL ML).bind λFw=>(if Fw.1=true then((Co.f k Fw.2.1 Fw.2.2.1 Fw.2.2.2.1 Fw.2.2.2.2.1 Fw.2.2.2.2.2.1 Fw.2.2.2.2.2.2.1 Fw.2.2.2.2.2.2.2.1 Fw.2.2.2.2.2.2.2.2.1 Fw.2.2.2.2.2.2.2.2.2 EA FZ Fa H8 J3).bind λIe=>(if Ie.1=true then((Fc.f k Ie.2.1 Ie.2.2.1 Ie.2.2.2.1 Ie.2.2.2.2.1 Ie.2.2.2.2.2.1 Ie.2.2.2.2.2.2.1 Ie.2.2.2.2.2.2.2.1 Ie.2.2.2.2.2.2.2.2.1 Ie.2.2.2.2.2.2.2.2.2).bind λM6=>(Am.j18 k M6.1 M6.2.1 M6.2.2.1 M6.2.2.2.1 M6.2.2.2.2.1 M6.2.2.2.2.2.1 M6.2.2.2.2.2.2.1 M6.2.2.2.2.2.2.2.1 M6.2.2.2.2.2.2.2.2.1 M6.2.2.2.2.2.2.2.2.2)) else(Am.j9 k Ie.2.1 Ie.2.2.1 Ie.2.2.2.1 Ie.2.2.2.2.1 Ie.2.2.2.2.2.1 Ie.2.2.2.2.2.2.1 Ie.2.2.2.2.2.2.2.1 Ie.2.2.2.2.2.2.2.2.1 Ie.2.2.2.2.2.2.2.2.2))) else(Am.j9 k Fw.2.1 Fw.2.2.1 Fw.2.2.2.1 Fw.2.2.2.2.1 Fw.2.2.2.2.2.1 Fw.2.2.2.2.2.2.1 Fw.2.2.2.2.2.2.2.1 Fw.2.2.2.2.2.2.2.2.1 Fw.2.2.2.2.2.2.2.2.2)))))))
/-! ### rat_Of: function 103 -/
def Tm.f (k:Nat) (a0:Int):Option (Bool × List Int × List Int):=if a0<0 then((Kw.f k (IntKind.u64.wrap (-(IntKind.u64.wrap (a0))))).bind λARi=>((NQ.f).bind λARj=>(some (true,ARi,ARj)))) else((Kw.f k (IntKind.u64.wrap (a0))).bind λARk=>((NQ.f).bind λARl=>(some (false,ARk,ARl))))
/-! ### bank_Bank_quotient: function by hand -/
def CU.f (k:Nat) (Ab Ae:Int) (Af:List (Int × Int × Int × Bool × (List Int) × List Int)) (Ah Ai:List Bool) (BH BK:Int) (BL:Bool) (BJ a1 a2:Int):Option (Bool × List Int × List Int × Int × Int × List (Int × Int × Int × Bool × (List Int) × List Int) × List Bool × List Bool × Int × Int × Bool × Int):=(Tm.f k a2).bind λAW=>((Tm.f k a1).bind λCQ=>((L7.f k CQ.1 CQ.2.1 CQ.2.2 AW.1 AW.2.1 AW.2.2).bind λJp=>((BU.f k Ab Ae Af Ah Ai BH BK BL BJ Jp.2.2.2).bind λC5=>(some (Jp.1,Jp.2.1,Jp.2.2.1,C5.1,C5.2.1,C5.2.2.1,C5.2.2.2.1,C5.2.2.2.2.1,C5.2.2.2.2.2.1,C5.2.2.2.2.2.2.1,C5.2.2.2.2.2.2.2.1,C5.2.2.2.2.2.2.2.2)))))
/-! ### bank_Bank_Lit: function by hand -/
def CR.f (k:Nat) (Ab Ae:Int) (Af:List (Int × Int × Int × Bool × (List Int) × List Int)) (Ah Ai:List Bool) (BH BK:Int) (BL:Bool) (BJ D6 Jo JT:Int):Option (Bool × List Int × List Int × Int × Int × Int × Int × List (Int × Int × Int × Bool × (List Int) × List Int) × List Bool × List Bool × Int × Int × Bool × Int):=(Bh.f k Ab Ae Af Ah Ai BH BK BL BJ).bind λAW=>(if AW.1=true then(some (false,([]:List Int),([]:List Int),0,0,AW.2.1,AW.2.2.1,AW.2.2.2.1,AW.2.2.2.2.1,AW.2.2.2.2.2.1,AW.2.2.2.2.2.2.1,AW.2.2.2.2.2.2.2.1,AW.2.2.2.2.2.2.2.2.1,AW.2.2.2.2.2.2.2.2.2)) else(if AW.2.1=0 then((CU.f k AW.2.1 AW.2.2.1 AW.2.2.2.1 AW.2.2.2.2.1 AW.2.2.2.2.2.1 AW.2.2.2.2.2.2.1 AW.2.2.2.2.2.2.2.1 AW.2.2.2.2.2.2.2.2.1 AW.2.2.2.2.2.2.2.2.2 D6 Jo).bind λCQ=>(some (CQ.1,CQ.2.1,CQ.2.2.1,0,0,CQ.2.2.2.1,CQ.2.2.2.2.1,CQ.2.2.2.2.2.1,CQ.2.2.2.2.2.2.1,CQ.2.2.2.2.2.2.2.1,CQ.2.2.2.2.2.2.2.2.1,CQ.2.2.2.2.2.2.2.2.2.1,CQ.2.2.2.2.2.2.2.2.2.2.1,CQ.2.2.2.2.2.2.2.2.2.2.2))) else(if AW.2.1=1 then((FN.f JT).bind λt3=>(some (false,([]:List Int),([]:List Int),t3,0,AW.2.1,AW.2.2.1,AW.2.2.2.1,AW.2.2.2.2.1,AW.2.2.2.2.2.1,AW.2.2.2.2.2.2.1,AW.2.2.2.2.2.2.2.1,AW.2.2.2.2.2.2.2.2.1,AW.2.2.2.2.2.2.2.2.2))) else((CE.f k AW.2.1 AW.2.2.1 AW.2.2.2.1 AW.2.2.2.2.1 AW.2.2.2.2.2.1 AW.2.2.2.2.2.2.1 AW.2.2.2.2.2.2.2.1 AW.2.2.2.2.2.2.2.2.1 AW.2.2.2.2.2.2.2.2.2 1 AW.2.2.1 0 false ([]:List Int) ([]:List Int)).bind λC5=>(if C5.2.2.2.2.2.2.2.2.2.2.2.2.2=0 then(some (C5.1,C5.2.1,C5.2.2.1,C5.2.2.2.1,C5.2.2.2.2.1,C5.2.2.2.2.2.1,(wrap64 (C5.2.2.2.2.2.2.1+1)),C5.2.2.2.2.2.2.2.1,C5.2.2.2.2.2.2.2.2.1,C5.2.2.2.2.2.2.2.2.2.1,C5.2.2.2.2.2.2.2.2.2.2.1,C5.2.2.2.2.2.2.2.2.2.2.2.1,C5.2.2.2.2.2.2.2.2.2.2.2.2.1,C5.2.2.2.2.2.2.2.2.2.2.2.2.2)) else(some (C5.1,C5.2.1,C5.2.2.1,C5.2.2.2.1,C5.2.2.2.2.1,C5.2.2.2.2.2.1,C5.2.2.2.2.2.2.1,C5.2.2.2.2.2.2.2.1,C5.2.2.2.2.2.2.2.2.1,C5.2.2.2.2.2.2.2.2.2.1,C5.2.2.2.2.2.2.2.2.2.2.1,C5.2.2.2.2.2.2.2.2.2.2.2.1,C5.2.2.2.2.2.2.2.2.2.2.2.2.1,C5.2.2.2.2.2.2.2.2.2.2.2.2.2)))))))
/-! ### bank_Bank_Log: function by hand -/
def IG.f (k:Nat) (Ab Ae:Int) (Af:List (Int × Int × Int × Bool × (List Int) × List Int)) (Ah Ai:List Bool) (BH BK:Int) (BL:Bool) (BJ:Int) (D6:Bool) (Jo JT:List Int) (LL ML:Int):Option (Bool × List Int × List Int × Int × Int × Int × Int × List (Int × Int × Int × Bool × (List Int) × List Int) × List Bool × List Bool × Int × Int × Bool × Int):=(AO.f k Ab Ae Af Ah Ai BH BK BL BJ 10 D6 Jo JT LL ML false ([]:List Int) ([]:List Int) 0 0 false).bind λAW=>(some (AW.1,AW.2.1,AW.2.2.1,AW.2.2.2.1,AW.2.2.2.2.1,AW.2.2.2.2.2.1,AW.2.2.2.2.2.2.1,AW.2.2.2.2.2.2.2.1,AW.2.2.2.2.2.2.2.2.1,AW.2.2.2.2.2.2.2.2.2.1,AW.2.2.2.2.2.2.2.2.2.2.1,AW.2.2.2.2.2.2.2.2.2.2.2.1,AW.2.2.2.2.2.2.2.2.2.2.2.2.1,AW.2.2.2.2.2.2.2.2.2.2.2.2.2))
/-! ### bank_Bank_Met: function by hand -/
def Ga.f (k:Nat) (Ab Ae:Int) (Af:List (Int × Int × Int × Bool × (List Int) × List Int)) (Ah Ai:List Bool) (BH BK:Int) (BL:Bool) (BJ:Int):Option (List Bool × Int × Int × List (Int × Int × Int × Bool × (List Int) × List Int) × List Bool × List Bool × Int × Int × Bool × Int):=if(([]:List Bool).length+Ai.length)*1<=140737488355328 then(some ((([]:List Bool)++Ai),Ab,Ae,Af,Ah,Ai,BH,BK,BL,BJ)) else none
/-! ### bank_Bank_Mode: function by hand -/
def G2.f (k:Nat) (Ab Ae:Int) (Af:List (Int × Int × Int × Bool × (List Int) × List Int)) (Ah Ai:List Bool) (BH BK:Int) (BL:Bool) (BJ:Int):Option (Int × Int × Int × List (Int × Int × Int × Bool × (List Int) × List Int) × List Bool × List Bool × Int × Int × Bool × Int):=some (Ab,Ab,Ae,Af,Ah,Ai,BH,BK,BL,BJ)
/-! ### bank_Bank_Mul: function by hand -/
def Dm.f (k:Nat) (Ab Ae:Int) (Af:List (Int × Int × Int × Bool × (List Int) × List Int)) (Ah Ai:List Bool) (BH BK:Int) (BL:Bool) (BJ:Int) (D6:Bool) (Jo JT:List Int) (LL ML:Int) (EA:Bool) (FZ Fa:List Int) (H8 J3:Int):Option (Bool × List Int × List Int × Int × Int × Int × Int × List (Int × Int × Int × Bool × (List Int) × List Int) × List Bool × List Bool × Int × Int × Bool × Int):=(AO.f k Ab Ae Af Ah Ai BH BK BL BJ 6 D6 Jo JT LL ML EA FZ Fa H8 J3 true).bind λAW=>(some (AW.1,AW.2.1,AW.2.2.1,AW.2.2.2.1,AW.2.2.2.2.1,AW.2.2.2.2.2.1,AW.2.2.2.2.2.2.1,AW.2.2.2.2.2.2.2.1,AW.2.2.2.2.2.2.2.2.1,AW.2.2.2.2.2.2.2.2.2.1,AW.2.2.2.2.2.2.2.2.2.2.1,AW.2.2.2.2.2.2.2.2.2.2.2.1,AW.2.2.2.2.2.2.2.2.2.2.2.2.1,AW.2.2.2.2.2.2.2.2.2.2.2.2.2))
/-! ### bank_Bank_Neg: function by hand -/
def II.f (k:Nat) (Ab Ae:Int) (Af:List (Int × Int × Int × Bool × (List Int) × List Int)) (Ah Ai:List Bool) (BH BK:Int) (BL:Bool) (BJ:Int) (D6:Bool) (Jo JT:List Int) (LL ML:Int):Option (Bool × List Int × List Int × Int × Int × Int × Int × List (Int × Int × Int × Bool × (List Int) × List Int) × List Bool × List Bool × Int × Int × Bool × Int):=(AO.f k Ab Ae Af Ah Ai BH BK BL BJ 3 D6 Jo JT LL ML false ([]:List Int) ([]:List Int) 0 0 false).bind λAW=>(some (AW.1,AW.2.1,AW.2.2.1,AW.2.2.2.1,AW.2.2.2.2.1,AW.2.2.2.2.2.1,AW.2.2.2.2.2.2.1,AW.2.2.2.2.2.2.2.1,AW.2.2.2.2.2.2.2.2.1,AW.2.2.2.2.2.2.2.2.2.1,AW.2.2.2.2.2.2.2.2.2.2.1,AW.2.2.2.2.2.2.2.2.2.2.2.1,AW.2.2.2.2.2.2.2.2.2.2.2.2.1,AW.2.2.2.2.2.2.2.2.2.2.2.2.2))
/-! ### nat_Bit: function 117 -/
def NS.f (l0:List Int) (a1:Int):Option (Bool):=if a1>=0 then(if(wrap64 (Int.tdiv a1 64))<(l0.length:Int) then(if 0<=(wrap64 (Int.tdiv a1 64)) then(if 0<=(Int.tmod a1 64) then(some ((Go.bits .and .u64 (shr .u64 (rd l0 (wrap64 (Int.tdiv a1 64))) (Int.tmod a1 64)) 1)==1)) else(none)) else(none)) else(some false)) else(some false)
/-! ### nat_Even: function 118 -/
def EX.l0:Nat->List Int->Int->Int->Option (Int)
 | 0,_,_,_=>none
 | k+1,x0,x7,x8=>if x8<x7 then((NS.f x0 x8).bind λARm=>(if ARm=true then(some x8) else(EX.l0 k x0 x7 (wrap64 (x8+1))))) else(some 0)
def EX.f (k:Nat) (l0:List Int):Option (Int):=(DB.f k l0).bind λARn=>(EX.l0 k l0 ARn 0)
/-! ### fround_Of: function 63 -/
def EF.j0:Nat->Bool->List Int->Int->Option (Int)
 | 0,_,_,_=>none
 | k+1,x0,x1,x2=>(DB.f k x1).bind λADY=>(if ADY<=64 then((J2.f k x1).bind λANh=>((BE.f k x0 ANh.1 x2).bind λARo=>(some ARo))) else(if(mx (wrap64 ((wrap64 (ADY+x2))-53)) (-1074))>971 then((Ch.f x0).bind λARp=>(some ARp)) else((EO.f k x1 (wrap64 ((mx (wrap64 ((wrap64 (ADY+x2))-53)) (-1074))-x2))).bind λARq=>((J2.f k ARq).bind λANi=>((NS.f x1 (wrap64 ((wrap64 ((mx (wrap64 ((wrap64 (ADY+x2))-53)) (-1074))-x2))-1))).bind λARr=>((EX.f k x1).bind λARs=>((FM.f ANi.1 ARr (decide (ARs<(wrap64 ((wrap64 ((mx (wrap64 ((wrap64 (ADY+x2))-53)) (-1074))-x2))-1))))).bind λARt=>((Cr.f k x0 ARt (mx (wrap64 ((wrap64 (ADY+x2))-53)) (-1074))).bind λARu=>(some ARu)))))))))
def EF.f (k:Nat) (a0:Bool) (l1:List Int) (a2:Int) (a3:Bool):Option (Int):=if a3=true then((CC.f k l1 1).bind λARv=>((Kw.f k 1).bind λARw=>((Bc.f k ARv ARw).bind λARx=>(EF.j0 k a0 ARx ((mn (mx a2 (-1099511627776)) 1099511627776)-1))))) else(EF.j0 k a0 l1 (mn (mx a2 (-1099511627776)) 1099511627776))
/-! ### fround_FromRat: function 80 -/
def CJ.j0 (k:Nat) (x3:Int) (x15 g8:Bool) (ACL ACN:List Int):Option (Int):=if x15=true then(if g8=true then((Is.f k g8 ACL ACN).bind λARy=>((Cr.f k (ARy !=0) 0 0).bind λARz=>(some ARz))) else((Cr.f k false 0 0).bind λAR0=>(some AR0))) else(if x3>1200 then((Ch.f g8).bind λAR1=>(some AR1)) else((CC.f k ACL (mx (wrap64 (70-x3)) 0)).bind λAR2=>((H6.f k AR2 ACN).bind λAJw=>((EF.f k g8 AJw.1 (wrap64 (-(mx (wrap64 (70-x3)) 0))) (decide ((AJw.2.1.length:Int)>0))).bind λAR3=>(some AR3)))))
def CJ.f (k:Nat) (EN:Bool) (FY Fz:List Int):Option (Int):=(DB.f k FY).bind λALG=>((DB.f k Fz).bind λALH=>((Is.f k EN FY Fz).bind λAR4=>(if AR4=0 then(CJ.j0 k (wrap64 (ALG-ALH)) true EN FY Fz) else(CJ.j0 k (wrap64 (ALG-ALH)) (decide ((wrap64 (ALG-ALH))<(-1200))) EN FY Fz))))
/-! ### bank_Bank_Num: function by hand -/
def DW.f (k:Nat) (Ab Ae:Int) (Af:List (Int × Int × Int × Bool × (List Int) × List Int)) (Ah Ai:List Bool) (BH BK:Int) (BL:Bool) (BJ a1 a2:Int):Option (Bool × List Int × List Int × Int × Int × Int × Int × List (Int × Int × Int × Bool × (List Int) × List Int) × List Bool × List Bool × Int × Int × Bool × Int):=(Bh.f k Ab Ae Af Ah Ai BH BK BL BJ).bind λAW=>(if AW.1=true then(some (false,([]:List Int),([]:List Int),0,0,AW.2.1,AW.2.2.1,AW.2.2.2.1,AW.2.2.2.2.1,AW.2.2.2.2.2.1,AW.2.2.2.2.2.2.1,AW.2.2.2.2.2.2.2.1,AW.2.2.2.2.2.2.2.2.1,AW.2.2.2.2.2.2.2.2.2)) else((CU.f k AW.2.1 AW.2.2.1 AW.2.2.2.1 AW.2.2.2.2.1 AW.2.2.2.2.2.1 AW.2.2.2.2.2.2.1 AW.2.2.2.2.2.2.2.1 AW.2.2.2.2.2.2.2.2.1 AW.2.2.2.2.2.2.2.2.2 a1 a2).bind λCQ=>(if CQ.2.2.2.2.2.2.2.2.2.2.2=0 then(if CQ.2.2.2.1=0 then(some (CQ.1,CQ.2.1,CQ.2.2.1,0,0,CQ.2.2.2.1,CQ.2.2.2.2.1,CQ.2.2.2.2.2.1,CQ.2.2.2.2.2.2.1,CQ.2.2.2.2.2.2.2.1,CQ.2.2.2.2.2.2.2.2.1,CQ.2.2.2.2.2.2.2.2.2.1,CQ.2.2.2.2.2.2.2.2.2.2.1,CQ.2.2.2.2.2.2.2.2.2.2.2)) else(if CQ.2.2.2.1=1 then((CJ.f k CQ.1 CQ.2.1 CQ.2.2.1).bind λt3=>(some (false,([]:List Int),([]:List Int),t3,0,CQ.2.2.2.1,CQ.2.2.2.2.1,CQ.2.2.2.2.2.1,CQ.2.2.2.2.2.2.1,CQ.2.2.2.2.2.2.2.1,CQ.2.2.2.2.2.2.2.2.1,CQ.2.2.2.2.2.2.2.2.2.1,CQ.2.2.2.2.2.2.2.2.2.2.1,CQ.2.2.2.2.2.2.2.2.2.2.2))) else((CE.f k CQ.2.2.2.1 CQ.2.2.2.2.1 CQ.2.2.2.2.2.1 CQ.2.2.2.2.2.2.1 CQ.2.2.2.2.2.2.2.1 CQ.2.2.2.2.2.2.2.2.1 CQ.2.2.2.2.2.2.2.2.2.1 CQ.2.2.2.2.2.2.2.2.2.2.1 CQ.2.2.2.2.2.2.2.2.2.2.2 2 0 0 CQ.1 CQ.2.1 CQ.2.2.1).bind λC5=>(some (C5.1,C5.2.1,C5.2.2.1,C5.2.2.2.1,C5.2.2.2.2.1,C5.2.2.2.2.2.1,C5.2.2.2.2.2.2.1,C5.2.2.2.2.2.2.2.1,C5.2.2.2.2.2.2.2.2.1,C5.2.2.2.2.2.2.2.2.2.1,C5.2.2.2.2.2.2.2.2.2.2.1,C5.2.2.2.2.2.2.2.2.2.2.2.1,C5.2.2.2.2.2.2.2.2.2.2.2.2.1,C5.2.2.2.2.2.2.2.2.2.2.2.2.2))))) else(some (false,([]:List Int),([]:List Int),0,0,CQ.2.2.2.1,CQ.2.2.2.2.1,CQ.2.2.2.2.2.1,CQ.2.2.2.2.2.2.1,CQ.2.2.2.2.2.2.2.1,CQ.2.2.2.2.2.2.2.2.1,CQ.2.2.2.2.2.2.2.2.2.1,CQ.2.2.2.2.2.2.2.2.2.2.1,CQ.2.2.2.2.2.2.2.2.2.2.2)))))
/-! ### bank_Bank_Ops: function by hand -/
def FL.f (k:Nat) (Ab Ae:Int) (Af:List (Int × Int × Int × Bool × (List Int) × List Int)) (Ah Ai:List Bool) (BH BK:Int) (BL:Bool) (BJ:Int):Option (Int × Int × Int × List (Int × Int × Int × Bool × (List Int) × List Int) × List Bool × List Bool × Int × Int × Bool × Int):=some (BK,Ab,Ae,Af,Ah,Ai,BH,BK,BL,BJ)
/-! ### bank_copied: function by hand -/
def Ij.f (k:Nat) (EN:Bool) (v9 wO:List Int):Option (Bool × List Int × List Int):=if(([]:List Int).length+v9.length)*8<=140737488355328 then(if(([]:List Int).length+wO.length)*8<=140737488355328 then(some (EN,(([]:List Int)++v9),(([]:List Int)++wO))) else none) else none
/-! ### bank_Bank_Program: function by hand -/
def Ax.l0:Nat->(List (Int × Int × Int × Bool × (List Int) × List Int))->(List (Int × Int × Int × Bool × (List Int) × List Int))->Int->Int->Int->Int->List Bool->List Bool->Int->Int->Bool->Int->Option (List (Int × Int × Int × Bool × (List Int) × List Int) × Int × Int × List (Int × Int × Int × Bool × (List Int) × List Int) × List Bool × List Bool × Int × Int × Bool × Int)
 | 0,_,_,_,_,_,_,_,_,_,_,_,_=>none
 | k+1,x3,Ik,aW,Hf,ACO,ACP,ACQ,ACR,ACS,ACT,ACU,ACV=>if Hf<aW then(if 0<=Hf then(if Hf<(Ik.length:Int) then((Ij.f k (JV Ik Hf).2.2.2.1 (JV Ik Hf).2.2.2.2.1 (JV Ik Hf).2.2.2.2.2).bind λAW=>(if(x3.length+1)*80<=140737488355328 then(Ax.l0 k (x3++ [((JV Ik Hf).1,((JV Ik Hf).2.1,((JV Ik Hf).2.2.1,(AW.1,(AW.2.1,AW.2.2)))))]) Ik aW (wrap64 (Hf+1)) ACO ACP ACQ ACR ACS ACT ACU ACV) else none)) else none) else none) else(some (x3,ACO,ACP,Ik,ACQ,ACR,ACS,ACT,ACU,ACV))
def Ax.f (k:Nat) (Ab Ae:Int) (Af:List (Int × Int × Int × Bool × (List Int) × List Int)) (Ah Ai:List Bool) (BH BK:Int) (BL:Bool) (BJ:Int):Option (List (Int × Int × Int × Bool × (List Int) × List Int) × Int × Int × List (Int × Int × Int × Bool × (List Int) × List Int) × List Bool × List Bool × Int × Int × Bool × Int):=Ax.l0 k [] Af (Af.length:Int) 0 Ab Ae Ah Ai BH BK BL BJ
/-! ### bank_Bank_Sqrt: function by hand -/
def G3.f (k:Nat) (Ab Ae:Int) (Af:List (Int × Int × Int × Bool × (List Int) × List Int)) (Ah Ai:List Bool) (BH BK:Int) (BL:Bool) (BJ:Int) (D6:Bool) (Jo JT:List Int) (LL ML:Int):Option (Bool × List Int × List Int × Int × Int × Int × Int × List (Int × Int × Int × Bool × (List Int) × List Int) × List Bool × List Bool × Int × Int × Bool × Int):=(AO.f k Ab Ae Af Ah Ai BH BK BL BJ 8 D6 Jo JT LL ML false ([]:List Int) ([]:List Int) 0 0 false).bind λAW=>(some (AW.1,AW.2.1,AW.2.2.1,AW.2.2.2.1,AW.2.2.2.2.1,AW.2.2.2.2.2.1,AW.2.2.2.2.2.2.1,AW.2.2.2.2.2.2.2.1,AW.2.2.2.2.2.2.2.2.1,AW.2.2.2.2.2.2.2.2.2.1,AW.2.2.2.2.2.2.2.2.2.2.1,AW.2.2.2.2.2.2.2.2.2.2.2.1,AW.2.2.2.2.2.2.2.2.2.2.2.2.1,AW.2.2.2.2.2.2.2.2.2.2.2.2.2))
/-! ### bank_Bank_Sub: function by hand -/
def IJ.f (k:Nat) (Ab Ae:Int) (Af:List (Int × Int × Int × Bool × (List Int) × List Int)) (Ah Ai:List Bool) (BH BK:Int) (BL:Bool) (BJ:Int) (D6:Bool) (Jo JT:List Int) (LL ML:Int) (EA:Bool) (FZ Fa:List Int) (H8 J3:Int):Option (Bool × List Int × List Int × Int × Int × Int × Int × List (Int × Int × Int × Bool × (List Int) × List Int) × List Bool × List Bool × Int × Int × Bool × Int):=(AO.f k Ab Ae Af Ah Ai BH BK BL BJ 5 D6 Jo JT LL ML EA FZ Fa H8 J3 true).bind λAW=>(some (AW.1,AW.2.1,AW.2.2.1,AW.2.2.2.1,AW.2.2.2.2.1,AW.2.2.2.2.2.1,AW.2.2.2.2.2.2.1,AW.2.2.2.2.2.2.2.1,AW.2.2.2.2.2.2.2.2.1,AW.2.2.2.2.2.2.2.2.2.1,AW.2.2.2.2.2.2.2.2.2.2.1,AW.2.2.2.2.2.2.2.2.2.2.2.1,AW.2.2.2.2.2.2.2.2.2.2.2.2.1,AW.2.2.2.2.2.2.2.2.2.2.2.2.2))
/-! ### bank_Bank_Tie: function by hand -/
def ID.f (k:Nat) (Ab Ae:Int) (Af:List (Int × Int × Int × Bool × (List Int) × List Int)) (Ah Ai:List Bool) (BH BK:Int) (BL:Bool) (BJ:Int):Option (Bool × Int × Int × List (Int × Int × Int × Bool × (List Int) × List Int) × List Bool × List Bool × Int × Int × Bool × Int):=some (BL,Ab,Ae,Af,Ah,Ai,BH,BK,BL,BJ)
/-! ### bank_New: function by hand -/
def J1.f (k:Nat) (a0:Int) (a1:List Bool):Option (Bool × Int × Int × List Bool × Int × Int × Bool × Int):=if a0<0 then(some (true,0,0,([]:List Bool),0,0,false,0)) else(if a0>2 then(some (true,0,0,([]:List Bool),0,0,false,0)) else(if(([]:List Bool).length+a1.length)*1<=140737488355328 then(some (false,a0,0,(([]:List Bool)++a1),0,0,false,0)) else none))
/-! ### gr02_Size: function 134 -/
def Be.l0:Nat->List Int->Int->Option (Int)
 | 0,_,_=>none
 | k+1,x0,x3=>if x3>0 then(if 0<=(wrap64 (x3-1)) then(if(wrap64 (x3-1))<(x0.length:Int) then(if(rd x0 (wrap64 (x3-1)))=0 then(Be.l0 k x0 (wrap64 (x3-1))) else(some x3)) else(none)) else(none)) else(some x3)
def Be.f (k:Nat) (l0:List Int):Option (Int):=Be.l0 k l0 (l0.length:Int)
/-! ### gr02_Trim: function 140 -/
def A8.l0:Nat->List Int->List Int->Int->Int->Option (List Int)
 | 0,_,_,_,_=>none
 | k+1,x0,x3,x6,x7=>if x7<x6 then(if 0<=x7 then(if x7<(x0.length:Int) then(if x3.length<17592186044416 then(A8.l0 k x0 (x3++ [rd x0 x7]) x6 (wrap64 (x7+1))) else(none)) else(none)) else(none)) else(some x3)
def A8.f (k:Nat) (l0:List Int):Option (List Int):=(Be.f k l0).bind λt106=>(A8.l0 k l0 ([]:List Int) t106 0)
/-! ### gr02_Shl: function 90 -/
mutual
def Ac.l0:Nat->List Int->Int->List Int->Int->Int->Option (List Int)
 | 0,_,_,_,_,_=>none
 | k+1,x0,x1,x5,Hf,cm=>if cm<Hf then(if x5.length<17592186044416 then(Ac.l0 k x0 x1 (x5++ [0]) Hf (wrap64 (cm+1))) else(none)) else(Ac.l1 k x0 x1 x5 (x0.length:Int) 0)
def Ac.l1:Nat->List Int->Int->List Int->Int->Int->Option (List Int)
 | 0,_,_,_,_,_=>none
 | k+1,x0,x1,x5,Sm,N2=>if N2<Sm then(if 0<=N2 then(if N2<(x0.length:Int) then(if x5.length<17592186044416 then(Ac.l1 k x0 x1 (x5++ [rd x0 N2]) Sm (wrap64 (N2+1))) else(none)) else(none)) else(none)) else(if(x1%64)=0 then((A8.f k x5).bind λt118=>(some t118)) else(if x5.length<17592186044416 then((some (x5++ [0]:List Int)).bind λANj=>(Ac.l2 k ANj (x1%64) (wrap64 ((ANj.length:Int)-1)))) else(none)))
def Ac.l2:Nat->List Int->Int->Int->Option (List Int)
 | 0,_,_,_=>none
 | k+1,x5,x7,x8=>if x8>0 then(if 0<=x8 then(if x8<(x5.length:Int) then(if 0<=(wrap64 (x8-1)) then(if(wrap64 (x8-1))<(x5.length:Int) then(Ac.l2 k (x5.set (x8:Int).toNat (Go.bits .or .u64 (IntKind.u64.wrap ((rd x5 x8)*2^x7.toNat)) ((rd x5 (wrap64 (x8-1)))/2^(64-x7).toNat))) x7 (wrap64 (x8-1))) else(none)) else(none)) else(none)) else(none)) else(if 0<(x5.length:Int) then((A8.f k (x5.set (0:Int).toNat (IntKind.u64.wrap ((rd x5 0)*2^x7.toNat)))).bind λt129=>(some t129)) else(none))
end
def Ac.f (k:Nat) (l0:List Int) (a1:Int):Option (List Int):=Ac.l0 k l0 (mn (mx a1 0) 65536) ([]:List Int) ((mn (mx a1 0) 65536)/64) 0
/-! ### gr02_Shr: function 100 -/
mutual
def BG.l0:Nat->List Int->Int->List Int->Int->Option (List Int)
 | 0,_,_,_,_=>none
 | k+1,x0,x1,x5,x6=>if x6<(x0.length:Int) then(if 0<=x6 then(if x5.length<17592186044416 then(BG.l0 k x0 x1 (x5++ [rd x0 x6]) (wrap64 (x6+1))) else(none)) else(none)) else(if(x1%64)=0 then((A8.f k x5).bind λt136=>(some t136)) else(BG.l1 k x5 (x1%64) (x5.length:Int) 0))
def BG.l1:Nat->List Int->Int->Int->Int->Option (List Int)
 | 0,_,_,_,_=>none
 | k+1,x5,x7,x35,uS=>if uS<x35 then(if 0<=uS then(if uS<(x5.length:Int) then((some (x5.set (uS:Int).toNat ((rd x5 uS)/2^x7.toNat):List Int)).bind λAIQ=>(if(wrap64 (uS+1))<(x5.length:Int) then(if 0<=(wrap64 (uS+1)) then(BG.l1 k (AIQ.set (uS:Int).toNat (Go.bits .or .u64 (rd AIQ uS) (IntKind.u64.wrap ((rd AIQ (wrap64 (uS+1)))*2^(64-x7).toNat)))) x7 x35 (wrap64 (uS+1))) else(none)) else(BG.l1 k AIQ x7 x35 (wrap64 (uS+1))))) else(none)) else(none)) else((A8.f k x5).bind λt144=>(some t144))
end
def BG.f (k:Nat) (l0:List Int) (a1:Int):Option (List Int):=BG.l0 k l0 (mx a1 0) ([]:List Int) (wrap64 ((mx a1 0)/64))
/-! ### gr02_Halves: function 143 -/
def Bn.l0:Nat->List Int->List Int->Int->Int->Option (List Int)
 | 0,_,_,_,_=>none
 | k+1,x0,x3,x6,x7=>if x7<x6 then(if 0<=x7 then(if x7<(x0.length:Int) then(if x3.length<17592186044416 then((some (x3++ [Go.bits .and .u64 (rd x0 x7) 4294967295]:List Int)).bind λANk=>(if ANk.length<17592186044416 then(Bn.l0 k x0 (ANk++ [(rd x0 x7)/4294967296]) x6 (wrap64 (x7+1))) else(none))) else(none)) else(none)) else(none)) else((A8.f k x3).bind λt158=>(some t158))
def Bn.f (k:Nat) (l0:List Int):Option (List Int):=Bn.l0 k l0 ([]:List Int) (l0.length:Int) 0
/-! ### gr02_at: function 144 -/
def IY.f (l0:List Int) (a1:Int):Option (Int):=if a1<0 then(some 0) else(if a1>=(l0.length:Int) then(some 0) else(if 0<=a1 then(if a1<(l0.length:Int) then(some (rd l0 a1)) else(none)) else(none)))
/-! ### gr02_Whole: function 145 -/
def CD.l0:Nat->List Int->List Int->Int->Option (List Int)
 | 0,_,_,_=>none
 | k+1,x0,x3,x4=>if x4<(x0.length:Int) then(if 0<=x4 then(if(wrap64 (x4+1))<(x0.length:Int) then(if 0<=(wrap64 (x4+1)) then(if x3.length<17592186044416 then(CD.l0 k x0 (x3++ [Go.bits .or .u64 (rd x0 x4) (IntKind.u64.wrap ((rd x0 (wrap64 (x4+1)))*4294967296))]) (wrap64 (x4+2))) else(none)) else(none)) else(if x3.length<17592186044416 then(CD.l0 k x0 (x3++ [rd x0 x4]) (wrap64 (x4+2))) else(none))) else(none)) else((A8.f k x3).bind λt170=>(some t170))
def CD.f (k:Nat) (l0:List Int):Option (List Int):=CD.l0 k l0 ([]:List Int) 0
/-! ### gr02_Sub: function 102 -/
def CB.l0:Nat->List Int->List Int->List Int->Int->Int->Int->Option (List Int)
 | 0,_,_,_,_,_,_=>none
 | k+1,x5,x6,x7,x8,x16,x17=>if x17<x16 then(if 0<=x17 then(if x17<(x5.length:Int) then((IY.f x6 x17).bind λt180=>(if x7.length<17592186044416 then(CB.l0 k x5 x6 (x7++ [Go.bits .and .u64 (IntKind.u64.wrap ((IntKind.u64.wrap ((IntKind.u64.wrap (4294967296+(rd x5 x17)))-t180))-x8)) 4294967295]) (IntKind.u64.wrap (1-((IntKind.u64.wrap ((IntKind.u64.wrap ((IntKind.u64.wrap (4294967296+(rd x5 x17)))-t180))-x8))/4294967296))) x16 (wrap64 (x17+1))) else(none))) else(none)) else(none)) else((CD.f k x7).bind λt184=>(some t184))
def CB.f (k:Nat) (l0 l1:List Int):Option (List Int):=(Bn.f k l0).bind λt173=>((Bn.f k l1).bind λt176=>(CB.l0 k t173 t176 ([]:List Int) 0 (t173.length:Int) 0))
/-! ### gr02_Cmp: function 103 -/
def Bx.l0:Nat->List Int->List Int->Int->Option (Int)
 | 0,_,_,_=>none
 | k+1,x0,x1,x6=>if x6>=0 then((IY.f x0 x6).bind λt187=>((IY.f x1 x6).bind λt188=>(if t187<t188 then(some (-1)) else(if t187>t188 then(some 1) else(Bx.l0 k x0 x1 (wrap64 (x6-1))))))) else(some 0)
def Bx.f (k:Nat) (l0 l1:List Int):Option (Int):=Bx.l0 k l0 l1 (wrap64 ((mx (l0.length:Int) (l1.length:Int))-1))
/-! ### gr02_Bit: function 141 -/
def G4.f (l0:List Int) (a1:Int):Option (Bool):=if a1>=0 then(if(wrap64 (Int.tdiv a1 64))<(l0.length:Int) then(if 0<=(wrap64 (Int.tdiv a1 64)) then(if 0<=(IntKind.u64.wrap (Int.tmod a1 64)) then(some ((Go.bits .and .u64 (shr .u64 (rd l0 (wrap64 (Int.tdiv a1 64))) (IntKind.u64.wrap (Int.tmod a1 64))) 1)==1)) else(none)) else(none)) else(some false)) else(some false)
/-! ### gr02_Even: function 156 -/
def Cb.l0:Nat->List Int->Int->Option (Int)
 | 0,_,_=>none
 | k+1,x0,x3=>(G4.f x0 x3).bind λAR5=>(if AR5=true then(some x3) else(Cb.l0 k x0 (wrap64 (x3+1))))
def Cb.f (k:Nat) (l0:List Int):Option (Int):=(Be.f k l0).bind λAR6=>(if AR6=0 then(some 0) else(Cb.l0 k l0 0))
/-! ### gr05_Gcd: function 135 -/
mutual
def Bo.j0:Nat->List Int->List Int->Bool->Option (List Int)
 | 0,_,_,_=>none
 | k+1,x0,x1,x28=>if x28=true then(if 0<(x0.length:Int) then(if 0<(x1.length:Int) then(Bo.l0 k (rd x0 0) (rd x1 0)) else(none)) else(none)) else((Cb.f k x0).bind λAR7=>((Cb.f k x1).bind λAR8=>((Cb.f k x0).bind λAIK=>((BG.f k x0 AIK).bind λAR9=>((Cb.f k x1).bind λASA=>((BG.f k x1 ASA).bind λASB=>(Bo.l1 k (mn AR7 AR8) AR9 ASB)))))))
def Bo.l0:Nat->Int->Int->Option (List Int)
 | 0,_,_=>none
 | k+1,x5,x6=>if x6>0 then(if x6=0 then(none) else(Bo.l0 k x6 (Int.tmod x5 x6))) else(some (([x5]:List Int)))
def Bo.l1:Nat->Int->List Int->List Int->Option (List Int)
 | 0,_,_,_=>none
 | k+1,x7,x8,x9=>(Bx.f k x8 x9).bind λANl=>(if ANl=0 then((Ac.f k x8 x7).bind λAIL=>(some AIL)) else(if ANl<0 then((CB.f k x9 x8).bind λAFd=>((Cb.f k AFd).bind λAIM=>((BG.f k AFd AIM).bind λASC=>(Bo.l1 k x7 ASC x8)))) else((CB.f k x8 x9).bind λANm=>((Cb.f k ANm).bind λASD=>((BG.f k ANm ASD).bind λASE=>(Bo.l1 k x7 ASE x9))))))
end
def Bo.f (k:Nat) (l0 l1:List Int):Option (List Int):=(Be.f k l0).bind λASF=>(if ASF=0 then((A8.f k l1).bind λASG=>(some ASG)) else((Be.f k l1).bind λASH=>(if ASH=0 then((A8.f k l0).bind λAK8=>(some AK8)) else((Be.f k l0).bind λASI=>(if ASI=1 then((Be.f k l1).bind λASJ=>(Bo.j0 k l0 l1 (ASJ==1))) else(Bo.j0 k l0 l1 false))))))
/-! ### gr01_Len: function 142 -/
def FD.l0:Nat->Int->Int->Option (Int)
 | 0,_,_=>none
 | k+1,x0,x3=>if x0>0 then(FD.l0 k (x0/2) (wrap64 (x3+1))) else(some x3)
def FD.f (k:Nat) (a0:Int):Option (Int):=FD.l0 k a0 0
/-! ### gr02_Bits: function 101 -/
def Df.f (k:Nat) (l0:List Int):Option (Int):=(Be.f k l0).bind λt147=>(if t147=0 then(some 0) else(if 0<=(wrap64 (t147-1)) then(if(wrap64 (t147-1))<(l0.length:Int) then((FD.f k (rd l0 (wrap64 (t147-1)))).bind λt149=>(some (wrap64 ((wrap64 ((wrap64 (64*t147))-64))+t149)))) else(none)) else(none)))
/-! ### gr04_set: function 151 -/
def Cc.l0:Nat->List Int->Int->List Int->Int->Int->Option (List Int)
 | 0,_,_,_,_,_=>none
 | k+1,x0,x1,x5,Hf,cm=>if cm<Hf then(if cm<(x0.length:Int) then(if 0<=cm then(if cm=(wrap64 (Int.tdiv x1 64)) then(if 0<=(IntKind.u64.wrap (Int.tmod x1 64)) then(if x5.length<17592186044416 then(Cc.l0 k x0 x1 (x5++ [Go.bits .or .u64 (rd x0 cm) (shl .u64 1 (IntKind.u64.wrap (Int.tmod x1 64)))]) Hf (wrap64 (cm+1))) else(none)) else(none)) else(if x5.length<17592186044416 then(Cc.l0 k x0 x1 (x5++ [rd x0 cm]) Hf (wrap64 (cm+1))) else(none))) else(none)) else(if cm=(wrap64 (Int.tdiv x1 64)) then(if 0<=(IntKind.u64.wrap (Int.tmod x1 64)) then(if x5.length<17592186044416 then(Cc.l0 k x0 x1 (x5++ [Go.bits .or .u64 0 (shl .u64 1 (IntKind.u64.wrap (Int.tmod x1 64)))]) Hf (wrap64 (cm+1))) else(none)) else(none)) else(if x5.length<17592186044416 then(Cc.l0 k x0 x1 (x5++ [0]) Hf (wrap64 (cm+1))) else(none)))) else(some x5)
def Cc.f (k:Nat) (l0:List Int) (a1:Int):Option (List Int):=Cc.l0 k l0 a1 ([]:List Int) (mx (l0.length:Int) (wrap64 ((wrap64 (Int.tdiv a1 64))+1))) 0
/-! ### gr04_Div: function 139 -/
mutual
def Bg.j0:Nat->List Int->List Int->List Int->Bool->Option (List Int × List Int)
 | 0,_,_,_,_=>none
 | k+1,x0,x1,x6,x18=>if x18=true then(if 0<(x0.length:Int) then(if 0<(x1.length:Int) then(if(rd x1 0)=0 then(none) else((A8.f k (([IntKind.u64.wrap (Int.tdiv (rd x0 0) (rd x1 0))]:List Int))).bind λALA=>((A8.f k (([Int.tmod (rd x0 0) (rd x1 0)]:List Int))).bind λASK=>(some (ALA,ASK))))) else(none)) else(none)) else((Df.f k x0).bind λAIN=>((Df.f k x1).bind λAIO=>((BG.f k x0 (mx 0 (wrap64 ((wrap64 (AIN-AIO))+1)))).bind λALB=>(Bg.l0 k x0 x1 x6 ALB (wrap64 ((mx 0 (wrap64 ((wrap64 (AIN-AIO))+1)))-1))))))
def Bg.l0:Nat->List Int->List Int->List Int->List Int->Int->Option (List Int × List Int)
 | 0,_,_,_,_,_=>none
 | k+1,x0,x1,x6,x7,Jl=>if Jl>=0 then((Ac.f k x7 1).bind λANn=>((G4.f x0 Jl).bind λALC=>(if ALC=true then((Cc.f k ANn 0).bind λASL=>(Bg.j2 k x0 x1 x6 ASL Jl)) else(Bg.j2 k x0 x1 x6 ANn Jl)))) else((A8.f k x6).bind λASM=>((A8.f k x7).bind λASN=>(some (ASM,ASN))))
def Bg.j2:Nat->List Int->List Int->List Int->List Int->Int->Option (List Int × List Int)
 | 0,_,_,_,_,_=>none
 | k+1,x0,x1,x6,x7,Jl=>(Bx.f k x7 x1).bind λASO=>(if ASO>=0 then((CB.f k x7 x1).bind λASP=>((Cc.f k x6 Jl).bind λASQ=>(Bg.l0 k x0 x1 ASQ ASP (wrap64 (Jl-1))))) else(Bg.l0 k x0 x1 x6 x7 (wrap64 (Jl-1))))
end
def Bg.f (k:Nat) (l0 l1:List Int):Option (List Int × List Int):=(Be.f k l0).bind λASR=>(if ASR=1 then((Be.f k l1).bind λAK9=>(Bg.j0 k l0 l1 ([]:List Int) (AK9==1))) else(Bg.j0 k l0 l1 ([]:List Int) false))
/-! ### gr05_Part: function 136 -/
def KX.f (k:Nat) (l0 l1:List Int):Option (List Int):=(Be.f k l1).bind λALD=>(if ALD=0 then(some ([]:List Int)) else((Bx.f k l1 (([1]:List Int))).bind λASS=>(if ASS=0 then((A8.f k l0).bind λAST=>(some AST)) else((Bg.f k l0 l1).bind λANo=>(some ANo.1)))))
/-! ### gr07_Make: function 81 -/
def Cw.f (k:Nat) (a0:Bool) (l1 l2:List Int):Option (Bool × List Int × List Int):=(Be.f k l1).bind λASU=>(if ASU=0 then(some (false,([]:List Int),(([1]:List Int)))) else((Bo.f k l1 l2).bind λANp=>((KX.f k l1 ANp).bind λASV=>((KX.f k l2 ANp).bind λASW=>(some (a0,ASV,ASW))))))
/-! ### gr07_Of: function 119 -/
def KE.f (k:Nat) (a0:Int):Option (Bool × List Int × List Int):=if a0<0 then((Cw.f k true (([IntKind.u64.wrap (-(IntKind.u64.wrap (a0)))]:List Int)) (([1]:List Int))).bind λAF4=>(some (AF4.1,AF4.2.1,AF4.2.2))) else((Cw.f k false (([IntKind.u64.wrap (a0)]:List Int)) (([1]:List Int))).bind λAF5=>(some (AF5.1,AF5.2.1,AF5.2.2)))
/-! ### gr07_Words: function 109 -/
def Cy.l0:Nat->List Int->List Int->Int->Int->Option (Bool)
 | 0,_,_,_,_=>none
 | k+1,x0,x1,aW,Hf=>if Hf<aW then(if 0<=Hf then(if Hf<(x0.length:Int) then(if Hf<(x1.length:Int) then(if(rd x0 Hf)=(rd x1 Hf) then(Cy.l0 k x0 x1 aW (wrap64 (Hf+1))) else(some false)) else(none)) else(none)) else(none)) else(some true)
def Cy.f (k:Nat) (l0 l1:List Int):Option (Bool):=if(l0.length:Int)=(l1.length:Int) then(Cy.l0 k l0 l1 (l0.length:Int) 0) else(some false)
/-! ### gr07_Same: function 61 -/
def JW.f (k:Nat) (EN:Bool) (FY Fz:List Int) (D6:Bool) (OY NR:List Int):Option (Bool):=if(EN==D6)=true then((Cy.f k FY OY).bind λASX=>(if ASX=true then((Cy.f k Fz NR).bind λASY=>(some ASY)) else(some false))) else(some false)
/-! ### gr09_Field: function 88 -/
def EG.f (a0:Int):Option (Int):=some (wrap64 (Go.bits .and .u64 (a0/4503599627370496) 2047))
/-! ### gr09_Rest: function 96 -/
def F4.f (a0:Int):Option (Int):=some (Go.bits .and .u64 a0 4503599627370495)
/-! ### gr09_Kind: function 40 -/
def Bk.f (a0:Int):Option (Int):=(EG.f a0).bind λASZ=>(if ASZ=2047 then((F4.f a0).bind λASa=>(if ASa=0 then(some 3) else(some 4))) else((EG.f a0).bind λASb=>(if ASb>0 then(some 2) else((F4.f a0).bind λASc=>(if ASc>0 then(some 1) else(some 0))))))
/-! ### gr09_Nan: function 33 -/
def DY.f  :Option (Int):=some 9221120237041090560
/-! ### gr09_Clean: function 44 -/
def Ge.f (a0:Int):Option (Int):=(Bk.f a0).bind λANq=>(if ANq=4 then((DY.f).bind λANr=>(some ANr)) else(some a0))
/-! ### gr03_Mul: function 107 -/
mutual
def BP.l0:Nat->List Int->List Int->List Int->Int->Int->Option (List Int)
 | 0,_,_,_,_,_=>none
 | k+1,x5,x6,x7,NP,x24=>if x24<NP then(BP.l1 k x5 x6 x7 x24 0 NP x24 (x6.length:Int) 0) else((CD.f k x7).bind λASd=>(some ASd))
def BP.l1:Nat->List Int->List Int->List Int->Int->Int->Int->Int->Int->Int->Option (List Int)
 | 0,_,_,_,_,_,_,_,_,_=>none
 | k+1,x5,x6,x7,x8,x9,NP,x24,x28,cV=>if cV<x28 then(if 0<=x8 then(if x8<(x5.length:Int) then(if 0<=cV then(if cV<(x6.length:Int) then(if 0<=(wrap64 (x8+cV)) then(if(wrap64 (x8+cV))<(x7.length:Int) then(BP.l1 k x5 x6 (x7.set ((wrap64 (x8+cV)):Int).toNat (Go.bits .and .u64 (IntKind.u64.wrap ((IntKind.u64.wrap (x9+(IntKind.u64.wrap ((rd x5 x8)*(rd x6 cV)))))+(rd x7 (wrap64 (x8+cV))))) 4294967295)) x8 ((IntKind.u64.wrap ((IntKind.u64.wrap (x9+(IntKind.u64.wrap ((rd x5 x8)*(rd x6 cV)))))+(rd x7 (wrap64 (x8+cV)))))/4294967296) NP x24 x28 (wrap64 (cV+1))) else(none)) else(none)) else(none)) else(none)) else(none)) else(none)) else(if 0<=(wrap64 (x8+(x6.length:Int))) then(if(wrap64 (x8+(x6.length:Int)))<(x7.length:Int) then(BP.l0 k x5 x6 (x7.set ((wrap64 (x8+(x6.length:Int))):Int).toNat x9) NP (wrap64 (x24+1))) else(none)) else(none))
end
def BP.f (k:Nat) (l0 l1:List Int):Option (List Int):=(Bn.f k l0).bind λAAZ=>((Bn.f k l1).bind λAIR=>(if 0<=(wrap64 ((wrap64 ((AAZ.length:Int)+(AIR.length:Int)))+1)) then(if(wrap64 ((wrap64 ((AAZ.length:Int)+(AIR.length:Int)))+1):Int).toNat<=35184372088832 then(BP.l0 k AAZ AIR (List.replicate (wrap64 ((wrap64 ((AAZ.length:Int)+(AIR.length:Int)))+1):Int).toNat 0) (AAZ.length:Int) 0) else(none)) else(none)))
/-! ### gr07_Div: function 111 -/
def J4.f (k:Nat) (EN:Bool) (FY Fz:List Int) (D6:Bool) (OY NR:List Int):Option (Bool × List Int × List Int):=(BP.f k FY NR).bind λASe=>((BP.f k Fz OY).bind λASf=>((Cw.f k (EN !=D6) ASe ASf).bind λAF6=>(some (AF6.1,AF6.2.1,AF6.2.2))))
/-! ### gr18_B_by: function by hand -/
def IK.f (k:Nat) (Ab Ae Af:Int) (Ah:List Bool) (Ai:Bool) (a1 a2:Int):Option (Bool × List Int × List Int × Int × Int × Int × List Bool × Bool):=if a2=0 then(some (false,([]:List Int),([]:List Int),Ab,4,Af,Ah,Ai)) else((KE.f k a1).bind λAW=>((KE.f k a2).bind λCQ=>((J4.f k AW.1 AW.2.1 AW.2.2 CQ.1 CQ.2.1 CQ.2.2).bind λJp=>(some (Jp.1,Jp.2.1,Jp.2.2,Ab,Ae,Af,Ah,Ai)))))
/-! ### gr18_B_Lit: function by hand -/
def Iu.f (k:Nat) (Ab Ae Af:Int) (Ah:List Bool) (Ai:Bool) (D6 Jo JT:Int):Option (Bool × List Int × List Int × Int × Int × Int × Int × Int × List Bool × Bool):=if Ae=0 then(if Ab=1 then((Ge.f JT).bind λt1=>(some (false,([]:List Int),([]:List Int),t1,0,Ab,Ae,Af,Ah,Ai))) else((IK.f k Ab Ae Af Ah Ai D6 Jo).bind λCQ=>(some (CQ.1,CQ.2.1,CQ.2.2.1,0,0,CQ.2.2.2.1,CQ.2.2.2.2.1,CQ.2.2.2.2.2.1,CQ.2.2.2.2.2.2.1,CQ.2.2.2.2.2.2.2)))) else(some (false,([]:List Int),([]:List Int),0,0,Ab,Ae,Af,Ah,Ai))
/-! ### gr09_Signed: function 91 -/
def CL.f (a0:Bool) (a1:Int):Option (Int):=if a0=true then(some (IntKind.u64.wrap (a1+9223372036854775808))) else(some a1)
/-! ### gr09_Inf: function 35 -/
def Dg.f (a0:Bool):Option (Int):=(CL.f a0 9218868437227405312).bind λt104=>(some t104)
/-! ### gr09_Make: function 31 -/
mutual
def Aj.j0:Nat->Bool->Int->Int->Bool->Option (Int × Bool)
 | 0,_,_,_,_=>none
 | k+1,x0,x1,x2,x17=>if x17=true then(some (0,false)) else(Aj.l0 k x0 x1 x2)
def Aj.l0:Nat->Bool->Int->Int->Option (Int × Bool)
 | 0,_,_,_=>none
 | k+1,x0,x1,x2=>if(Int.tmod x1 2)=0 then(Aj.l0 k x0 (IntKind.u64.wrap (Int.tdiv x1 2)) (wrap64 (x2+1))) else(if x1>=9007199254740992 then(Aj.j2 k x0 x1 x2 true) else(Aj.j2 k x0 x1 x2 (decide (x2<(-1074)))))
def Aj.j2:Nat->Bool->Int->Int->Bool->Option (Int × Bool)
 | 0,_,_,_,_=>none
 | k+1,x0,x1,x2,rV=>if rV=true then(some (0,false)) else(Aj.l1 k x0 x1 x2)
def Aj.j4:Nat->Bool->Int->Int->Option (Int × Bool)
 | 0,_,_,_=>none
 | k+1,x0,x1,x2=>if x1<4503599627370496 then((CL.f x0 x1).bind λt102=>(some (t102,true))) else(if x2>971 then(some (0,false)) else((CL.f x0 (IntKind.u64.wrap ((IntKind.u64.wrap ((IntKind.u64.wrap ((IntKind.u64.wrap (wrap64 (x2+1075)))*4503599627370496))+x1))-4503599627370496))).bind λt103=>(some (t103,true))))
def Aj.l1:Nat->Bool->Int->Int->Option (Int × Bool)
 | 0,_,_,_=>none
 | k+1,x0,x1,x2=>if x1<4503599627370496 then(if x2>(-1074) then(Aj.l1 k x0 (IntKind.u64.wrap (x1*2)) (wrap64 (x2-1))) else(Aj.j4 k x0 x1 x2)) else(Aj.j4 k x0 x1 x2)
end
def Aj.f (k:Nat) (a0:Bool) (a1 a2:Int):Option (Int × Bool):=if a1=0 then((CL.f a0 0).bind λt101=>(some (t101,true))) else(if a2<(-1200) then(Aj.j0 k a0 a1 a2 true) else(Aj.j0 k a0 a1 a2 (decide (a2>1200))))
/-! ### gr02_Add: function 108 -/
def Cz.l0:Nat->List Int->List Int->List Int->Int->Int->Int->Option (List Int)
 | 0,_,_,_,_,_,_=>none
 | k+1,x5,x6,x7,x8,oa,aV=>if aV<oa then((IY.f x5 aV).bind λt195=>((IY.f x6 aV).bind λt196=>(if x7.length<17592186044416 then(Cz.l0 k x5 x6 (x7++ [Go.bits .and .u64 (IntKind.u64.wrap ((IntKind.u64.wrap (x8+t195))+t196)) 4294967295]) ((IntKind.u64.wrap ((IntKind.u64.wrap (x8+t195))+t196))/4294967296) oa (wrap64 (aV+1))) else(none)))) else((CD.f k x7).bind λt200=>(some t200))
def Cz.f (k:Nat) (l0 l1:List Int):Option (List Int):=(Bn.f k l0).bind λt189=>((Bn.f k l1).bind λt192=>(Cz.l0 k t189 t192 ([]:List Int) 0 (wrap64 ((mx (t189.length:Int) (t192.length:Int))+1)) 0))
/-! ### gr10_Of: function 94 -/
mutual
def B6.j0:Nat->Bool->Int->List Int->Option (Int)
 | 0,_,_,_=>none
 | k+1,x0,x8,x9=>if(x9.length:Int)>0 then(if 0<(x9.length:Int) then(B6.j1 k x0 x8 (rd x9 0)) else(none)) else(B6.j1 k x0 x8 0)
def B6.j1:Nat->Bool->Int->Int->Option (Int)
 | 0,_,_,_=>none
 | k+1,x0,x8,aW=>(Aj.f k x0 aW x8).bind λAJx=>(if AJx.2=true then(some AJx.1) else((Dg.f x0).bind λASg=>(some ASg)))
end
def B6.f (k:Nat) (a0:Bool) (l1:List Int) (a2:Int):Option (Int):=(A8.f k l1).bind λt204=>(if(t204.length:Int)=0 then((CL.f a0 0).bind λt207=>(some t207)) else((Df.f k t204).bind λt208=>(if a2>2000 then((Dg.f a0).bind λt209=>(some t209)) else(if a2<(wrap64 ((-1200)-t208)) then((CL.f a0 0).bind λt210=>(some t210)) else(if(mx (wrap64 ((wrap64 (t208+a2))-53)) (-1074))>971 then((Dg.f a0).bind λt211=>(some t211)) else((Ac.f k t204 (wrap64 (a2-(mx (wrap64 ((wrap64 (t208+a2))-53)) (-1074))))).bind λt212=>(if a2<(mx (wrap64 ((wrap64 (t208+a2))-53)) (-1074)) then((BG.f k t204 (wrap64 ((mx (wrap64 ((wrap64 (t208+a2))-53)) (-1074))-a2))).bind λt215=>((Ac.f k t215 (wrap64 ((mx (wrap64 ((wrap64 (t208+a2))-53)) (-1074))-a2))).bind λt218=>((CB.f k t204 t218).bind λt221=>((Ac.f k t221 1).bind λt224=>((Ac.f k (([1]:List Int)) (wrap64 ((mx (wrap64 ((wrap64 (t208+a2))-53)) (-1074))-a2))).bind λt230=>((Bx.f k t224 t230).bind λANs=>(if ANs>0 then((Cz.f k t215 (([1]:List Int))).bind λASh=>(B6.j0 k a0 (mx (wrap64 ((wrap64 (t208+a2))-53)) (-1074)) ASh)) else(if ANs=0 then((G4.f t215 0).bind λASi=>(if ASi=true then((Cz.f k t215 (([1]:List Int))).bind λASj=>(B6.j0 k a0 (mx (wrap64 ((wrap64 (t208+a2))-53)) (-1074)) ASj)) else(B6.j0 k a0 (mx (wrap64 ((wrap64 (t208+a2))-53)) (-1074)) t215))) else(B6.j0 k a0 (mx (wrap64 ((wrap64 (t208+a2))-53)) (-1074)) t215))))))))) else(B6.j0 k a0 (mx (wrap64 ((wrap64 (t208+a2))-53)) (-1074)) t212))))))))
/-! ### gr10_Half: function 95 -/
def Lb.f (k:Nat) (l0:List Int):Option (List Int):=(Ac.f k l0 1).bind λASk=>((Cz.f k ASk (([1]:List Int))).bind λASl=>(some ASl))
/-! ### gr10_More: function 37 -/
def G5.f (k:Nat) (a0:Bool) (l1:List Int) (a2:Int) (a3:Bool):Option (Int):=if a3=true then((Lb.f k l1).bind λASm=>((B6.f k a0 ASm ((mn (mx a2 (-1099511627776)) 1099511627776)-1)).bind λASn=>(some ASn))) else((B6.f k a0 l1 (mn (mx a2 (-1099511627776)) 1099511627776)).bind λASo=>(some ASo))
/-! ### gr07_Zero: function 138 -/
def G6.f (EN:Bool) (FY Fz:List Int):Option (Bool):=some ((FY.length:Int)==0)
/-! ### gr10_FromRat: function 84 -/
def GL.f (k:Nat) (EN:Bool) (FY Fz:List Int):Option (Int):=(G6.f EN FY Fz).bind λANt=>(if ANt=true then(some 0) else((Df.f k FY).bind λACW=>((Df.f k Fz).bind λACX=>(if(wrap64 (ACW-ACX))>1100 then((Dg.f EN).bind λANu=>(some ANu)) else(if(wrap64 (ACW-ACX))<(-1200) then((CL.f EN 0).bind λANv=>(some ANv)) else((Ac.f k FY (mx 0 (wrap64 (64-(wrap64 (ACW-ACX)))))).bind λANw=>((Bg.f k ANw Fz).bind λAF7=>((G5.f k EN AF7.1 (wrap64 (-(mx 0 (wrap64 (64-(wrap64 (ACW-ACX))))))) (decide ((AF7.2.length:Int)>0))).bind λANx=>(some ANx)))))))))
/-! ### gr18_B_Num: function by hand -/
def Iv.f (k:Nat) (Ab Ae Af:Int) (Ah:List Bool) (Ai:Bool) (a1 a2:Int):Option (Bool × List Int × List Int × Int × Int × Int × Int × Int × List Bool × Bool):=if Ae=0 then((IK.f k Ab Ae Af Ah Ai a1 a2).bind λAW=>(if AW.2.2.2.2.1=0 then(if AW.2.2.2.1=1 then((GL.f k AW.1 AW.2.1 AW.2.2.1).bind λt2=>(some (false,([]:List Int),([]:List Int),t2,0,AW.2.2.2.1,AW.2.2.2.2.1,AW.2.2.2.2.2.1,AW.2.2.2.2.2.2.1,AW.2.2.2.2.2.2.2))) else(some (AW.1,AW.2.1,AW.2.2.1,0,0,AW.2.2.2.1,AW.2.2.2.2.1,AW.2.2.2.2.2.1,AW.2.2.2.2.2.2.1,AW.2.2.2.2.2.2.2))) else(some (false,([]:List Int),([]:List Int),0,0,AW.2.2.2.1,AW.2.2.2.2.1,AW.2.2.2.2.2.1,AW.2.2.2.2.2.2.1,AW.2.2.2.2.2.2.2)))) else(some (false,([]:List Int),([]:List Int),0,0,Ab,Ae,Af,Ah,Ai))
/-! ### gr09_Flip: function 46 -/
def IL.f (a0:Int):Option (Int):=(Bk.f a0).bind λANy=>(if ANy=4 then((DY.f).bind λANz=>(some ANz)) else(some (IntKind.u64.wrap (a0+9223372036854775808))))
/-! ### gr09_Neg: function 27 -/
def CX.f (a0:Int):Option (Bool):=some ((a0/9223372036854775808)==1)
/-! ### gr09_Parts: function 42 -/
def CV.f (a0:Int):Option (Int × Int):=(EG.f a0).bind λASp=>(if ASp=0 then((F4.f a0).bind λASq=>(some (ASq,(-1074)))) else((F4.f a0).bind λASr=>((EG.f a0).bind λASs=>(some (IntKind.u64.wrap (ASr+4503599627370496),wrap64 (ASs-1075))))))
/-! ### gr11_numbers: function 106 -/
def Hh.f (k:Nat) (a0 a1:Int):Option (Int):=(CV.f a0).bind λXT=>((CV.f a1).bind λXU=>((Ac.f k (([XT.1]:List Int)) (wrap64 (XT.2-(mn XT.2 XU.2)))).bind λACY=>((Ac.f k (([XU.1]:List Int)) (wrap64 (XU.2-(mn XT.2 XU.2)))).bind λACZ=>((CX.f a0).bind λAF8=>((CX.f a1).bind λAJy=>(if(AF8==AJy)=true then((Cz.f k ACY ACZ).bind λAN0=>((B6.f k AF8 AN0 (mn XT.2 XU.2)).bind λAN1=>(some AN1))) else((Bx.f k ACY ACZ).bind λAJz=>(if AJz=0 then(some 0) else(if AJz>0 then((CB.f k ACY ACZ).bind λAN2=>((B6.f k AF8 AN2 (mn XT.2 XU.2)).bind λAN3=>(some AN3))) else((CB.f k ACZ ACY).bind λAN4=>((B6.f k AJy AN4 (mn XT.2 XU.2)).bind λAN5=>(some AN5))))))))))))
/-! ### gr11_Add: function 56 -/
def CM.j0:Nat->Int->Int->Int->Int->Bool->Option (Int)
 | 0,_,_,_,_,_=>none
 | k+1,x0,x1,x5,x6,cV=>if cV=true then((DY.f).bind λAN6=>(some AN6)) else(if x5=3 then(some x0) else(if x6=3 then(some x1) else((Hh.f k x0 x1).bind λAN7=>(some AN7))))
def CM.f (k:Nat) (a0 a1:Int):Option (Int):=(Bk.f a0).bind λjt=>((Bk.f a1).bind λju=>(if jt=4 then(CM.j0 k a0 a1 jt ju true) else(if ju=4 then(CM.j0 k a0 a1 jt ju true) else(if jt=3 then(if ju=3 then(CM.j0 k a0 a1 jt ju (a0 !=a1)) else(CM.j0 k a0 a1 jt ju false)) else(CM.j0 k a0 a1 jt ju false)))))
/-! ### gr11_Sub: function 58 -/
def H9.f (k:Nat) (a0 a1:Int):Option (Int):=(IL.f a1).bind λAN8=>((CM.f k a0 AN8).bind λAN9=>(some AN9))
/-! ### gr12_Mul: function 67 -/
mutual
def BQ.j0:Nat->Int->Int->Int->Int->Bool->Bool->Option (Int)
 | 0,_,_,_,_,_,_=>none
 | k+1,x0,x1,x5,x6,x7,x42=>if x42=true then((DY.f).bind λAOA=>(some AOA)) else(if x5=3 then(BQ.j1 k x0 x1 x7 true) else(BQ.j1 k x0 x1 x7 (x6==3)))
def BQ.j1:Nat->Int->Int->Bool->Bool->Option (Int)
 | 0,_,_,_,_=>none
 | k+1,x0,x1,x7,x49=>if x49=true then((Dg.f x7).bind λAOB=>(some AOB)) else((CV.f x0).bind λAF9=>((CV.f x1).bind λAGA=>((BP.f k (([AF9.1]:List Int)) (([AGA.1]:List Int))).bind λAOC=>((B6.f k x7 AOC (wrap64 (AF9.2+AGA.2))).bind λAOD=>(some AOD)))))
end
def BQ.f (k:Nat) (a0 a1:Int):Option (Int):=(Bk.f a0).bind λTn=>((Bk.f a1).bind λTp=>((CX.f a0).bind λjv=>((CX.f a1).bind λjw=>(if Tn=4 then(BQ.j0 k a0 a1 Tn Tp (!(jv==jw)) true) else(if Tp=4 then(BQ.j0 k a0 a1 Tn Tp (!(jv==jw)) true) else(if Tn=3 then(if Tp=0 then(BQ.j0 k a0 a1 Tn Tp (!(jv==jw)) true) else(if Tn=0 then(BQ.j0 k a0 a1 Tn Tp (!(jv==jw)) (Tp==3)) else(BQ.j0 k a0 a1 Tn Tp (!(jv==jw)) false))) else(if Tn=0 then(BQ.j0 k a0 a1 Tn Tp (!(jv==jw)) (Tp==3)) else(BQ.j0 k a0 a1 Tn Tp (!(jv==jw)) false))))))))
/-! ### gr01_Div: function 123 -/
def EB.l0:Nat->Int->Int->Int->Int->Int->Option (Int × Int × Bool)
 | 0,_,_,_,_,_=>none
 | k+1,x1,x2,x9,Jl,Ik=>if Ik>=0 then(if 0<=(IntKind.u64.wrap (Ik)) then(if(Jl/9223372036854775808)=1 then(EB.l0 k x1 x2 (Go.bits .or .u64 (IntKind.u64.wrap (x9*2)) 1) (IntKind.u64.wrap ((Go.bits .or .u64 (IntKind.u64.wrap (Jl*2)) (Go.bits .and .u64 (shr .u64 x1 (IntKind.u64.wrap (Ik))) 1))-x2)) (wrap64 (Ik-1))) else(if(Go.bits .or .u64 (IntKind.u64.wrap (Jl*2)) (Go.bits .and .u64 (shr .u64 x1 (IntKind.u64.wrap (Ik))) 1))>=x2 then(EB.l0 k x1 x2 (Go.bits .or .u64 (IntKind.u64.wrap (x9*2)) 1) (IntKind.u64.wrap ((Go.bits .or .u64 (IntKind.u64.wrap (Jl*2)) (Go.bits .and .u64 (shr .u64 x1 (IntKind.u64.wrap (Ik))) 1))-x2)) (wrap64 (Ik-1))) else(EB.l0 k x1 x2 (IntKind.u64.wrap (x9*2)) (Go.bits .or .u64 (IntKind.u64.wrap (Jl*2)) (Go.bits .and .u64 (shr .u64 x1 (IntKind.u64.wrap (Ik))) 1)) (wrap64 (Ik-1))))) else(none)) else(some (x9,Jl,true))
def EB.f (k:Nat) (a0 a1 a2:Int):Option (Int × Int × Bool):=if a0>=a2 then(some (0,0,false)) else(EB.l0 k a1 a2 0 a0 63)
/-! ### gr12_Div: function 69 -/
mutual
def Ag.j0:Nat->Int->Int->Int->Int->Bool->Bool->Option (Int)
 | 0,_,_,_,_,_,_=>none
 | k+1,x0,x1,x5,x6,x7,x45=>if x45=true then((DY.f).bind λAOE=>(some AOE)) else(if x5=3 then(Ag.j1 k x0 x1 x5 x6 x7 true) else(Ag.j1 k x0 x1 x5 x6 x7 (x6==0)))
def Ag.j1:Nat->Int->Int->Int->Int->Bool->Bool->Option (Int)
 | 0,_,_,_,_,_,_=>none
 | k+1,x0,x1,x5,x6,x7,x52=>if x52=true then((Dg.f x7).bind λAOF=>(some AOF)) else(if x5=0 then(Ag.j2 k x0 x1 x7 true) else(Ag.j2 k x0 x1 x7 (x6==3)))
def Ag.j2:Nat->Int->Int->Bool->Bool->Option (Int)
 | 0,_,_,_,_=>none
 | k+1,x0,x1,x7,x60=>if x60=true then((CL.f x7 0).bind λAOG=>(some AOG)) else((CV.f x0).bind λAGB=>((CV.f x1).bind λAGC=>(Ag.l0 k x7 AGB.1 AGB.2 AGC.1 AGC.2)))
def Ag.l0:Nat->Bool->Int->Int->Int->Int->Option (Int)
 | 0,_,_,_,_,_=>none
 | k+1,x7,x8,x9,Jl,Ik=>if x8<4503599627370496 then(Ag.l0 k x7 (IntKind.u64.wrap (x8*2)) (wrap64 (x9-1)) Jl Ik) else(Ag.l1 k x7 x8 x9 Jl Ik)
def Ag.l1:Nat->Bool->Int->Int->Int->Int->Option (Int)
 | 0,_,_,_,_,_=>none
 | k+1,x7,x8,x9,Jl,Ik=>if Jl<4503599627370496 then(Ag.l1 k x7 x8 x9 (IntKind.u64.wrap (Jl*2)) (wrap64 (Ik-1))) else((EB.f k (IntKind.u64.wrap (x8*1024)) 0 (IntKind.u64.wrap (Jl*2048))).bind λAGD=>((G5.f k x7 (([AGD.1]:List Int)) (wrap64 ((wrap64 (x9-Ik))-63)) (decide (AGD.2.1>0))).bind λAOH=>(some AOH)))
end
def Ag.f (k:Nat) (a0 a1:Int):Option (Int):=(Bk.f a0).bind λTq=>((Bk.f a1).bind λTr=>((CX.f a0).bind λjx=>((CX.f a1).bind λjy=>(if Tq=4 then(Ag.j0 k a0 a1 Tq Tr (!(jx==jy)) true) else(if Tr=4 then(Ag.j0 k a0 a1 Tq Tr (!(jx==jy)) true) else(if Tq=3 then(if Tr=3 then(Ag.j0 k a0 a1 Tq Tr (!(jx==jy)) true) else(if Tq=0 then(Ag.j0 k a0 a1 Tq Tr (!(jx==jy)) (Tr==0)) else(Ag.j0 k a0 a1 Tq Tr (!(jx==jy)) false))) else(if Tq=0 then(Ag.j0 k a0 a1 Tq Tr (!(jx==jy)) (Tr==0)) else(Ag.j0 k a0 a1 Tq Tr (!(jx==jy)) false))))))))
/-! ### gr04_Root: function 235 -/
def Dh.l0:Nat->List Int->List Int->Int->Option (List Int)
 | 0,_,_,_=>none
 | k+1,x0,x3,x4=>if x4>=0 then((Cc.f k x3 x4).bind λAGE=>((BP.f k AGE AGE).bind λAOI=>((Bx.f k AOI x0).bind λAOJ=>(if AOJ<=0 then(Dh.l0 k x0 AGE (wrap64 (x4-1))) else(Dh.l0 k x0 x3 (wrap64 (x4-1))))))) else((A8.f k x3).bind λAOK=>(some AOK))
def Dh.f (k:Nat) (l0:List Int):Option (List Int):=(Df.f k l0).bind λAOL=>(Dh.l0 k l0 ([]:List Int) (wrap64 (Int.tdiv (wrap64 (AOL+1)) 2)))
/-! ### gr12_Sqrt: function 164 -/
mutual
def Bl.j0:Nat->Int->Int->Bool->Option (Int)
 | 0,_,_,_=>none
 | k+1,x0,x3,oa=>if oa=true then((DY.f).bind λAOM=>(some AOM)) else(if x3=3 then(some x0) else((CV.f x0).bind λjz=>(if(Int.tmod (wrap64 (jz.2-160)) 2)=0 then(Bl.j1 k jz.1 jz.2 160) else(Bl.j1 k jz.1 jz.2 (160+1)))))
def Bl.j1:Nat->Int->Int->Int->Option (Int)
 | 0,_,_,_=>none
 | k+1,x4,x5,x6=>(Ac.f k (([x4]:List Int)) x6).bind λAJ0=>((Dh.f k AJ0).bind λAGF=>((BP.f k AGF AGF).bind λAON=>((Bx.f k AON AJ0).bind λAOO=>((G5.f k false AGF (wrap64 (Int.tdiv (wrap64 (x5-x6)) 2)) (AOO !=0)).bind λAOP=>(some AOP)))))
end
def Bl.f (k:Nat) (a0:Int):Option (Int):=(Bk.f a0).bind λACa=>(if ACa=0 then(some a0) else(if ACa=4 then(Bl.j0 k a0 ACa true) else((CX.f a0).bind λAOQ=>(Bl.j0 k a0 ACa AOQ))))
/-! ### gr10_FromInt: function 65 -/
def C8.f (k:Nat) (a0:Int):Option (Int):=(KE.f k a0).bind λAJ1=>((B6.f k AJ1.1 AJ1.2.1 0).bind λALI=>(some ALI))
/-! ### gr09_Finite: function 26 -/
def FO.f (a0:Int):Option (Bool):=(EG.f a0).bind λASt=>(some (decide (ASt<2047)))
/-! ### gr13_Near: function 52 -/
mutual
def CW.j0:Nat->Int->Int->Int->List Int->Int->Option (Int × Bool)
 | 0,_,_,_,_,_=>none
 | k+1,x0,x4,x5,x6,x7=>if x5<0 then((Ac.f k x6 (wrap64 (-x5))).bind λAOR=>((CB.f k (([x4]:List Int)) AOR).bind λAOS=>((Ac.f k AOS 1).bind λAOT=>((Ac.f k (([1]:List Int)) (wrap64 (-x5))).bind λAOU=>((Bx.f k AOT AOU).bind λAJ2=>(if AJ2>0 then(CW.j1 k x0 x7 true) else(if AJ2=0 then(CW.j1 k x0 x7 ((Int.tmod x7 2)==1)) else(CW.j1 k x0 x7 false)))))))) else((CX.f x0).bind λAOV=>(if AOV=true then(some (wrap64 (-x7),true)) else(some (x7,true))))
def CW.j1:Nat->Int->Int->Bool->Option (Int × Bool)
 | 0,_,_,_=>none
 | k+1,x0,x7,x61=>if x61=true then((CX.f x0).bind λAOW=>(if AOW=true then(some (wrap64 (-(wrap64 (x7+1))),true)) else(some (wrap64 (x7+1),true)))) else((CX.f x0).bind λAOX=>(if AOX=true then(some (wrap64 (-x7),true)) else(some (x7,true))))
end
def CW.f (k:Nat) (a0:Int):Option (Int × Bool):=(FO.f a0).bind λAOY=>(if AOY=true then((CV.f a0).bind λXV=>((Ac.f k (([XV.1]:List Int)) XV.2).bind λAOZ=>((BG.f k AOZ (wrap64 (-XV.2))).bind λoc=>((Df.f k oc).bind λAOa=>(if AOa>62 then(some (0,false)) else(if(oc.length:Int)>0 then(if 0<(oc.length:Int) then(CW.j0 k a0 XV.1 XV.2 oc (wrap64 (rd oc 0))) else(none)) else(CW.j0 k a0 XV.1 XV.2 oc 0))))))) else(some (0,false)))
/-! ### gr13_Scale: function 54 -/
def Fo.f (k:Nat) (a0 a1:Int):Option (Int):=(FO.f a0).bind λAOb=>(if AOb=true then((CV.f a0).bind λAGG=>((CX.f a0).bind λAOc=>((B6.f k AOc (([AGG.1]:List Int)) (wrap64 (AGG.2+(mn (mx a1 (-9000)) 9000)))).bind λAOd=>(some AOd)))) else((Ge.f a0).bind λAOe=>(some AOe)))
/-! ### gr13_Less: function 78 -/
mutual
def Ba.j0:Nat->Int->Int->Bool->Option (Bool)
 | 0,_,_,_=>none
 | k+1,x0,x1,cm=>if cm=true then(some false) else((CX.f x0).bind λAGH=>((CX.f x1).bind λAGI=>(if AGH=true then(Ba.j1 k x0 x1 AGH AGI AGI) else(Ba.j1 k x0 x1 AGH AGI false))))
def Ba.j1:Nat->Int->Int->Bool->Bool->Bool->Option (Bool)
 | 0,_,_,_,_,_=>none
 | k+1,x0,x1,x5,x6,N2=>if N2=true then(some (decide (x1<x0))) else(if x5=true then(if x0=9223372036854775808 then(some (x1 !=0)) else(some true)) else(if x6=true then(some false) else(some (decide (x0<x1)))))
end
def Ba.f (k:Nat) (a0 a1:Int):Option (Bool):=(Bk.f a0).bind λAOf=>(if AOf=4 then(Ba.j0 k a0 a1 true) else((Bk.f a1).bind λAOg=>(Ba.j0 k a0 a1 (AOg==4))))
/-! ### gr14_by: function 127 -/
def K2.f (k:Nat) (a0:Int):Option (Int):=(C8.f k a0).bind λAOh=>((Ag.f k 4607182418800017408 AOh).bind λAOi=>(some AOi))
/-! ### gr14_factorial: function 128 -/
def Bp.l0:Nat->Int->Int->Int->Option (Int)
 | 0,_,_,_=>none
 | k+1,x3,x5,x6=>if x6<x5 then(Bp.l0 k (wrap64 (x3*(wrap64 (x6+1)))) x5 (wrap64 (x6+1))) else(some x3)
def Bp.f (k:Nat) (a0:Int):Option (Int):=Bp.l0 k 1 a0 0
/-! ### gr14_Exp: function 74 -/
def FF.l0:Nat->Int->Int->Int->Int->Option (Int)
 | 0,_,_,_,_=>none
 | k+1,x3,x6,x7,x38=>if x38<13 then((BQ.f k x7 x6).bind λAOj=>((Bp.f k (wrap64 (12-x38))).bind λAOl=>((K2.f k AOl).bind λAOm=>((CM.f k AOj AOm).bind λAOn=>(FF.l0 k x3 x6 AOn (wrap64 (x38+1))))))) else((Fo.f k x7 x3).bind λAOo=>(some AOo))
def FF.f (k:Nat) (a0:Int):Option (Int):=(Bk.f a0).bind λAOp=>(if AOp=4 then((DY.f).bind λAOq=>(some AOq)) else((C8.f k 710).bind λAOr=>((Ba.f k AOr a0).bind λAOs=>(if AOs=true then((Dg.f false).bind λAOt=>(some AOt)) else((C8.f k (-746)).bind λAOu=>((Ba.f k a0 AOu).bind λAOv=>(if AOv=true then(some 0) else((BQ.f k a0 4609176140021203710).bind λAOw=>((CW.f k AOw).bind λAGJ=>((C8.f k AGJ.1).bind λAJ3=>((BQ.f k AJ3 4604418534311723008).bind λAOx=>((H9.f k a0 AOx).bind λAOy=>((BQ.f k AJ3 4461442080421002358).bind λAOz=>((H9.f k AOy AOz).bind λAO0=>((Bp.f k 13).bind λAO1=>((K2.f k AO1).bind λAO2=>(FF.l0 k AGJ.1 AO0 AO2 0)))))))))))))))))
/-! ### gr14_Log: function 76 -/
mutual
def Au.j0:Nat->Int->Bool->Option (Int)
 | 0,_,_=>none
 | k+1,x0,NP=>if NP=true then((DY.f).bind λAO3=>(some AO3)) else((Bk.f x0).bind λAO4=>(if AO4=3 then(some x0) else(Au.l0 k x0 0)))
def Au.l0:Nat->Int->Int->Option (Int)
 | 0,_,_=>none
 | k+1,x3,x4=>(Ba.f k x3 4607182418800017408).bind λAO5=>(if AO5=true then((Fo.f k x3 1).bind λAO6=>(Au.l0 k AO6 (wrap64 (x4-1)))) else(Au.l1 k x3 x4))
def Au.l1:Nat->Int->Int->Option (Int)
 | 0,_,_=>none
 | k+1,x3,x4=>(Ba.f k x3 4611686018427387904).bind λAO7=>(if AO7=true then((Ba.f k 4609047870845172685 x3).bind λAO8=>(if AO8=true then((Fo.f k x3 (-1)).bind λAO9=>(Au.j3 k AO9 (wrap64 (x4+1)))) else(Au.j3 k x3 x4))) else((Fo.f k x3 (-1)).bind λAPA=>(Au.l1 k APA (wrap64 (x4+1)))))
def Au.j3:Nat->Int->Int->Option (Int)
 | 0,_,_=>none
 | k+1,x3,x4=>(H9.f k x3 4607182418800017408).bind λAJ4=>((CM.f k 4611686018427387904 AJ4).bind λAPB=>((Ag.f k AJ4 APB).bind λAGK=>((BQ.f k AGK AGK).bind λAPC=>((K2.f k 21).bind λAPD=>(Au.l2 k x4 AGK APC APD 0)))))
def Au.l2:Nat->Int->Int->Int->Int->Int->Option (Int)
 | 0,_,_,_,_,_=>none
 | k+1,x4,x6,x7,x8,x59=>if x59<9 then((BQ.f k x8 x7).bind λAPE=>((K2.f k (wrap64 (19-(wrap64 (2*x59))))).bind λAPF=>((CM.f k APE APF).bind λAPG=>(Au.l2 k x4 x6 x7 APG (wrap64 (x59+1)))))) else((CM.f k x6 x6).bind λAJ5=>((BQ.f k x8 x7).bind λAPH=>((BQ.f k AJ5 APH).bind λAPI=>((CM.f k AJ5 API).bind λAJ6=>(if x4=0 then(some AJ6) else((C8.f k x4).bind λAJ7=>((BQ.f k AJ7 4604418534311723008).bind λAPJ=>((BQ.f k AJ7 4461442080421002358).bind λAPK=>((CM.f k AJ6 APK).bind λAPL=>((CM.f k APJ APL).bind λAPM=>(some APM)))))))))))
end
def Au.f (k:Nat) (a0:Int):Option (Int):=(Bk.f a0).bind λAPN=>(if APN=0 then((Dg.f true).bind λAPO=>(some APO)) else((Bk.f a0).bind λAPP=>(if APP=4 then(Au.j0 k a0 true) else((CX.f a0).bind λAPQ=>(Au.j0 k a0 APQ)))))
/-! ### gr16_Double: function 91 -/
def Iw.f (k:Nat) (a0 a1 a2:Int):Option (Int):=if a0=3 then((IL.f a1).bind λAPR=>(some APR)) else(if a0=4 then((CM.f k a1 a2).bind λAPS=>(some APS)) else(if a0=5 then((H9.f k a1 a2).bind λAPT=>(some APT)) else(if a0=6 then((BQ.f k a1 a2).bind λAPU=>(some APU)) else(if a0=7 then((Ag.f k a1 a2).bind λAPV=>(some APV)) else(if a0=8 then((Bl.f k a1).bind λAPW=>(some APW)) else(if a0=9 then((FF.f k a1).bind λAPX=>(some APX)) else((Au.f k a1).bind λAPY=>(some APY))))))))
/-! ### gr07_Add: function 60 -/
def J5.f (k:Nat) (EN:Bool) (FY Fz:List Int) (D6:Bool) (OY NR:List Int):Option (Bool × List Int × List Int):=(BP.f k FY NR).bind λAIS=>((BP.f k OY Fz).bind λAIT=>((BP.f k Fz NR).bind λALJ=>(if(EN==D6)=true then((Cz.f k AIS AIT).bind λASu=>((Cw.f k EN ASu ALJ).bind λAGL=>(some (AGL.1,AGL.2.1,AGL.2.2)))) else((Bx.f k AIS AIT).bind λASv=>(if ASv>=0 then((CB.f k AIS AIT).bind λASw=>((Cw.f k EN ASw ALJ).bind λAGM=>(some (AGM.1,AGM.2.1,AGM.2.2)))) else((CB.f k AIT AIS).bind λASx=>((Cw.f k D6 ASx ALJ).bind λAGN=>(some (AGN.1,AGN.2.1,AGN.2.2)))))))))
/-! ### gr07_Mul: function 117 -/
def MN.f (k:Nat) (EN:Bool) (FY Fz:List Int) (D6:Bool) (OY NR:List Int):Option (Bool × List Int × List Int):=(BP.f k FY OY).bind λAPZ=>((BP.f k Fz NR).bind λAPa=>((Cw.f k (EN !=D6) APZ APa).bind λAAa=>(some (AAa.1,AAa.2.1,AAa.2.2))))
/-! ### gr07_Neg: function 110 -/
def J6.f (k:Nat) (EN:Bool) (FY Fz:List Int):Option (Bool × List Int × List Int):=(Cw.f k (!EN) FY Fz).bind λAGO=>(some (AGO.1,AGO.2.1,AGO.2.2))
/-! ### gr07_Sub: function 62 -/
def J7.f (k:Nat) (EN:Bool) (FY Fz:List Int) (D6:Bool) (OY NR:List Int):Option (Bool × List Int × List Int):=(J6.f k D6 OY NR).bind λAGP=>((J5.f k EN FY Fz AGP.1 AGP.2.1 AGP.2.2).bind λAGQ=>(some (AGQ.1,AGQ.2.1,AGQ.2.2)))
/-! ### gr18_B_exact: function by hand -/
def Hi.f (k:Nat) (Ab Ae Af:Int) (Ah:List Bool) (Ai:Bool) (a1:Int) (EA:Bool) (FZ Fa:List Int) (OZ:Bool) (Oa Ob:List Int):Option (Bool × List Int × List Int × Int × Int × Int × List Bool × Bool):=if a1=3 then((J6.f k EA FZ Fa).bind λAW=>(some (AW.1,AW.2.1,AW.2.2,Ab,Ae,Af,Ah,Ai))) else(if a1=4 then((J5.f k EA FZ Fa OZ Oa Ob).bind λCQ=>(some (CQ.1,CQ.2.1,CQ.2.2,Ab,Ae,Af,Ah,Ai))) else(if a1=5 then((J7.f k EA FZ Fa OZ Oa Ob).bind λJp=>(some (Jp.1,Jp.2.1,Jp.2.2,Ab,Ae,Af,Ah,Ai))) else(if a1=6 then((MN.f k EA FZ Fa OZ Oa Ob).bind λC5=>(some (C5.1,C5.2.1,C5.2.2,Ab,Ae,Af,Ah,Ai))) else(if a1>7 then(some (false,([]:List Int),([]:List Int),Ab,6,Af,Ah,Ai)) else((G6.f OZ Oa Ob).bind λt5=>(if t5=true then(some (false,([]:List Int),([]:List Int),Ab,4,Af,Ah,Ai)) else((J4.f k EA FZ Fa OZ Oa Ob).bind λFw=>(some (Fw.1,Fw.2.1,Fw.2.2,Ab,Ae,Af,Ah,Ai)))))))))
/-! ### gr18_B_Do: function by hand -/
def DT.j7:Nat->Bool->List Int->List Int->Int->Int->Bool->List Int->List Int->Int->Int->Int->Int->Int->List Bool->Bool->Option (Bool × List Int × List Int × Int × Int × Int × Int × Int × List Bool × Bool)
 | 0,_,_,_,_,_,_,_,_,_,_,_,_,_,_,_=>none
 | k+1,rN,rO,AFw,AFx,ADX,AIU,AIV,AIW,AIX,AIY,ACb,wR,ACc,ACd,ACe=>if wR=0 then(some (AIU,AIV,AIW,AIX,AIY,ACb,wR,(wrap64 (ACc+1)),ACd,ACe)) else(some (AIU,AIV,AIW,AIX,AIY,ACb,wR,ACc,ACd,ACe))
def DT.f (k:Nat) (Ab Ae Af:Int) (Ah:List Bool) (Ai:Bool) (a1:Int) (EA:Bool) (FZ Fa:List Int) (H8 J3:Int) (OZ:Bool) (Oa Ob:List Int) (jr rm:Int):Option (Bool × List Int × List Int × Int × Int × Int × Int × Int × List Bool × Bool):=if Ae=0 then(if Ab=1 then((Iw.f k a1 H8 jr).bind λt1=>(DT.j7 k false [] [] 0 0 false ([]:List Int) ([]:List Int) t1 0 Ab Ae Af Ah Ai)) else((Hi.f k Ab Ae Af Ah Ai a1 EA FZ Fa OZ Oa Ob).bind λCQ=>(DT.j7 k false [] [] 0 0 CQ.1 CQ.2.1 CQ.2.2.1 0 0 CQ.2.2.2.1 CQ.2.2.2.2.1 CQ.2.2.2.2.2.1 CQ.2.2.2.2.2.2.1 CQ.2.2.2.2.2.2.2))) else(some (false,([]:List Int),([]:List Int),0,0,Ab,Ae,Af,Ah,Ai))
/-! ### gr07_Sign: function 89 -/
def KY.f (EN:Bool) (FY Fz:List Int):Option (Int):=if(FY.length:Int)=0 then(some 0) else(if EN=true then(some (-1)) else(some 1))
/-! ### gr07_Cmp: function 29 -/
def N4.f (k:Nat) (EN:Bool) (FY Fz:List Int) (D6:Bool) (OY NR:List Int):Option (Int):=(J7.f k EN FY Fz D6 OY NR).bind λAGR=>((KY.f AGR.1 AGR.2.1 AGR.2.2).bind λASy=>(some ASy))
/-! ### gr18_B_Less: function by hand -/
mutual
def BZ.j10:Nat->Bool->Bool->Int->Int->Int->List Bool->Bool->Option (Bool × Int × Int × Int × List Bool × Bool)
 | 0,_,_,_,_,_,_,_=>none
 | k+1,x7,x8,Ys,Yt,Yu,WQ,j6=>if j6=true then(BZ.j11 k x7 Ys Yt Yu WQ true) else(if x7=true then(BZ.j11 k x7 Ys Yt Yu WQ false) else(BZ.j11 k x7 Ys Yt Yu WQ (!x8)))
def BZ.j11:Nat->Bool->Int->Int->Int->List Bool->Bool->Option (Bool × Int × Int × Int × List Bool × Bool)
 | 0,_,_,_,_,_,_=>none
 | k+1,x7,Ys,Yt,Yu,WQ,j6=>if(WQ.length+1)*1<=140737488355328 then(some (x7,Ys,Yt,Yu,(WQ++ [x7]),j6)) else none
end
def BZ.f (k:Nat) (Ab Ae Af:Int) (Ah:List Bool) (Ai D6:Bool) (Jo JT:List Int) (LL ML:Int) (EA:Bool) (FZ Fa:List Int) (H8 J3:Int):Option (Bool × Int × Int × Int × List Bool × Bool):=if Ae=0 then(if(Ah.length:Int)>=65536 then(some (false,Ab,13,Af,Ah,Ai)) else((Ba.f k LL H8).bind λt1=>((Ba.f k H8 LL).bind λt2=>(if Ab=0 then((N4.f k D6 Jo JT EA FZ Fa).bind λt3=>(BZ.j10 k (decide (t3<0)) (decide (t3>0)) Ab Ae Af Ah Ai)) else(BZ.j10 k t1 t2 Ab Ae Af Ah Ai))))) else(some (false,Ab,Ae,Af,Ah,Ai))
/-! ### gr18_Same: function by hand -/
def La.f (k:Nat) (EN:Bool) (v9 wO:List Int) (ASz AS0:Int) (D6:Bool) (Jo JT:List Int) (LL ML:Int):Option (Bool):=if ASz=LL then(if AS0=ML then((JW.f k EN v9 wO D6 Jo JT).bind λt1=>(some t1)) else(some false)) else(some false)
/-! ### gr18_All: function by hand -/
def FB.l0:Nat->(List ((Bool × (List Int) × List Int) × Int × Int))->(List ((Bool × (List Int) × List Int) × Int × Int))->Int->Int->Option (Bool)
 | 0,_,_,_,_=>none
 | k+1,x0,x1,aW,Hf=>if Hf<aW then(if 0<=Hf then(if Hf<(x0.length:Int) then(if Hf<(x1.length:Int) then((La.f k (Dp x0 Hf).1.1 (Dp x0 Hf).1.2.1 (Dp x0 Hf).1.2.2 (Dp x0 Hf).2.1 (Dp x0 Hf).2.2 (Dp x1 Hf).1.1 (Dp x1 Hf).1.2.1 (Dp x1 Hf).1.2.2 (Dp x1 Hf).2.1 (Dp x1 Hf).2.2).bind λt1=>(if t1=true then(FB.l0 k x0 x1 aW (wrap64 (Hf+1))) else(some false))) else none) else none) else none) else(some true)
def FB.f (k:Nat) (a0 a1:List ((Bool × (List Int) × List Int) × Int × Int)):Option (Bool):=if(a0.length:Int)=(a1.length:Int) then(FB.l0 k a0 a1 (a0.length:Int) 0) else(some false)
/-! ### gradineplain_Bools: function 43 -/
def Aw.l0:Nat->List Bool->List Bool->Int->Int->Option (Bool)
 | 0,_,_,_,_=>none
 | k+1,x0,x1,aW,Hf=>if Hf<aW then(if 0<=Hf then(if Hf<(x0.length:Int) then(if Hf<(x1.length:Int) then(if((AHW false x0 Hf) !=(AHW false x1 Hf))=true then(some false) else(Aw.l0 k x0 x1 aW (wrap64 (Hf+1)))) else(none)) else(none)) else(none)) else(some true)
def Aw.f (k:Nat) (l0 l1:List Bool):Option (Bool):=if(l0.length:Int)=(l1.length:Int) then(Aw.l0 k l0 l1 (l0.length:Int) 0) else(some false)
/-! ### gradineplain_Long: function 130 -/
def DP.f (EN:Bool) (FY Fz:List Int) (a1:Int):Option (Bool):=if(FY.length:Int)>a1 then(some true) else(some (decide ((Fz.length:Int)>a1)))
/-! ### gradineplain_Wide: function by hand -/
def BR.l0:Nat->(List ((Bool × (List Int) × List Int) × Int × Int))->Int->Int->Int->Option (Bool)
 | 0,_,_,_,_=>none
 | k+1,x0,x1,x7,x8=>if x8<x7 then(if 0<=x8 then(if x8<(x0.length:Int) then((DP.f (Dp x0 x8).1.1 (Dp x0 x8).1.2.1 (Dp x0 x8).1.2.2 x1).bind λt1=>(if t1=true then(some true) else(BR.l0 k x0 x1 x7 (wrap64 (x8+1))))) else none) else none) else(some false)
def BR.f (k:Nat) (a0:List ((Bool × (List Int) × List Int) × Int × Int)) (a1:Int):Option (Bool):=BR.l0 k a0 a1 (a0.length:Int) 0
end Go.Proofs.YtjocbnjpjihpnaaGreat.P
