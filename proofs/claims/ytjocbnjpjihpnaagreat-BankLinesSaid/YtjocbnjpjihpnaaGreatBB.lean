/- Functions of one package as Lean functions, and walks: written by a program for this claim. -/
import Derived.Test.YtjocbnjpjihpnaaGreatFbase
import Derived.Test.YtjocbnjpjihpnaaGreatFsxbase
namespace Go.Proofs.YtjocbnjpjihpnaaGreat.P
open Go.RowKit Go.Proofs.YtjocbnjpjihpnaaGreatW.AD Go.Proofs.YtjocbnjpjihpnaaGreatW.AU Go.Proofs.YtjocbnjpjihpnaaGreatW.Ac
attribute [local go_sem] cJ cK yS yT jT jU qW qX
set_option linter.unusedVariables false
set_option linter.unusedSimpArgs false
/-! ### bank_Bank_fails: function by hand -/
def BV.f (k:Nat) (AX Al:Int) (Am:List (Int × Int × Int × Bool × (List Int) × List Int)) (Ao BD:List Bool) (BB BH:Int) (BJ:Bool) (BE:Int):Option (Bool × Int × Int × List (Int × Int × Int × Bool × (List Int) × List Int) × List Bool × List Bool × Int × Int × Bool × Int):=some ((!(BE==0)),AX,Al,Am,Ao,BD,BB,BH,BJ,BE)
/-! ### bank_Bank_Fail: function by hand -/
def A8.f (k:Nat) (AX Al:Int) (Am:List (Int × Int × Int × Bool × (List Int) × List Int)) (Ao BD:List Bool) (BB BH:Int) (BJ:Bool) (BE a1:Int):Option (Int × Int × List (Int × Int × Int × Bool × (List Int) × List Int) × List Bool × List Bool × Int × Int × Bool × Int):=if BE=0 then(some (AX,Al,Am,Ao,BD,BB,BH,BJ,a1)) else(some (AX,Al,Am,Ao,BD,BB,BH,BJ,BE))
/-! ### bank_Bank_write: function by hand -/
def Br.f (k:Nat) (AX Al:Int) (Am:List (Int × Int × Int × Bool × (List Int) × List Int)) (Ao BD:List Bool) (BB BH:Int) (BJ:Bool) (BE D7 DR El:Int) (LU:Bool) (LV AFg:List Int):Option (Bool × List Int × List Int × Int × Int × Int × Int × List (Int × Int × Int × Bool × (List Int) × List Int) × List Bool × List Bool × Int × Int × Bool × Int):=if(Am.length:Int)>=65536 then((A8.f k AX Al Am Ao BD BB BH BJ BE 13).bind λAT=>(some (false,([]:List Int),([]:List Int),0,0,AT.1,AT.2.1,AT.2.2.1,AT.2.2.2.1,AT.2.2.2.2.1,AT.2.2.2.2.2.1,AT.2.2.2.2.2.2.1,AT.2.2.2.2.2.2.2.1,AT.2.2.2.2.2.2.2.2))) else(if(Am.length+1)*80<=140737488355328 then(some (false,([]:List Int),([]:List Int),0,(wrap64 (((Am++ [(D7,(DR,(El,(LU,(LV,AFg)))))]).length:Int)-1)),AX,Al,(Am++ [(D7,(DR,(El,(LU,(LV,AFg)))))]),Ao,BD,BB,BH,BJ,BE)) else none)
/-! ### bank_Bank_there: function by hand -/
def CL.f (k:Nat) (AX Al:Int) (Am:List (Int × Int × Int × Bool × (List Int) × List Int)) (Ao BD:List Bool) (BB BH:Int) (BJ:Bool) (BE:Int) (D7:Bool) (DR El:List Int) (LU LV:Int):Option (Bool × Int × Int × List (Int × Int × Int × Bool × (List Int) × List Int) × List Bool × List Bool × Int × Int × Bool × Int):=if LV<0 then((A8.f k AX Al Am Ao BD BB BH BJ BE 1).bind λAT=>(some (false,AT.1,AT.2.1,AT.2.2.1,AT.2.2.2.1,AT.2.2.2.2.1,AT.2.2.2.2.2.1,AT.2.2.2.2.2.2.1,AT.2.2.2.2.2.2.2.1,AT.2.2.2.2.2.2.2.2))) else(if LV>=(Am.length:Int) then((A8.f k AX Al Am Ao BD BB BH BJ BE 1).bind λCj=>(some (false,Cj.1,Cj.2.1,Cj.2.2.1,Cj.2.2.2.1,Cj.2.2.2.2.1,Cj.2.2.2.2.2.1,Cj.2.2.2.2.2.2.1,Cj.2.2.2.2.2.2.2.1,Cj.2.2.2.2.2.2.2.2))) else(some (true,AX,Al,Am,Ao,BD,BB,BH,BJ,BE)))
/-! ### nat_size: function 192 -/
def BZ.l0:Nat->List Int->Int->Option (Int)
 | 0,_,_=>none
 | k+1,x0,x3=>if x3>0 then(if 0<=(wrap64 (x3-1)) then(if(wrap64 (x3-1))<(x0.length:Int) then(if(rd x0 (wrap64 (x3-1)))=0 then(BZ.l0 k x0 (wrap64 (x3-1))) else(some x3)) else(none)) else(none)) else(some x3)
def BZ.f (k:Nat) (l0:List Int):Option (Int):=BZ.l0 k l0 (l0.length:Int)
set_option maxHeartbeats 8000000 in
set_option maxRecDepth 100000 in
theorem BZ.calls (k:Nat) (A0:Option Addr) (c0:Nat) (l0:List Int) (r:Int) (w:World) (WN:Kd.C (Kd.int .u64) w A0 l0.length l0) (hc0:l0.length<=c0) (h:BZ.f k l0=some r) :
 Calls Tryz.prog 192 #[.slice A0 l0.length c0] w λe w'=>e= .returned (.int .i64 r)/\Ge w w':=by
 have HR0:=Bn.mk WN;have HC0:=Bn.mk hc0;clear WN hc0;have H:(BZ.l0 k l0 (l0.length:Int))=some r:=h;clear h;have H':=Bn.mk H;clear H
 go_enter Tryz.func192,Tryz.ntmps192
 go_wp2
 go_loopg [3] k (λkq v3 w'=> ∃(oI:Int),v3= .int .i64 oI/\Bn (BZ.l0 kq l0 oI=some r)/\Bn (kq<=k)/\Ge w w')
 case atStart=>exact⟨((l0.length:Int)),(by first | rfl | (simp;done) | (simp[*];done)),H',⟨AP1 _⟩,by repeat (first | exact Ge.refl _ | apply Ge.step)⟩
 case round =>
  clear H'
  try clear c1
  obtain⟨oI,rfl,HA,HK1,⟨m1,rfl⟩⟩:=hrel;cases gk with
  | zero=>exact absurd HA.out (by simp[BZ.l0])
  | succ k1 =>
    have H:=HA.out;clear HA;simp only[BZ.l0] at H;by_cases c2:oI>0
    · rw[if_pos c2] at H
      have AMI:decide (0<oI)=true:=decide_eq_true c2;clear c2;obtain⟨RC,ef⟩ : ∃j_:Int,(wrap64 (oI-1))=j_:=⟨_,rfl⟩
      replace H:(if 0<=(RC) then(if(RC)<(l0.length:Int) then(if(rd l0 (RC))=0 then(BZ.l0 k1 l0 RC) else(some oI)) else(none)) else(none))=some r:=by first | (rw[ef] at H;exact H) | (simp only[ef] at H ⊢;exact H)
      have AO8:(IntKind.i64.wrap (oI-1))=RC:=(qR _).trans ef;by_cases c4:0<=(RC)
      · rw[if_pos c4] at H
        have AMJ:decide (0<=(RC))=true:=decide_eq_true c4;clear c4;by_cases c5:(RC)<(l0.length:Int)
        · rw[if_pos c5] at H
          have AJc:decide ((RC)<(l0.length:Int))=true:=decide_eq_true c5;clear c5;by_cases c6:(rd l0 (RC))=0
          · rw[if_pos c6] at H
            have AID:((rd l0 (RC))==0)=true:=beq_iff_eq.mpr c6;have AIE:((rd l0 (RC)) !=0)=false:=bne_eq_false_iff_eq.mpr c6;clear c6;have H':=Bn.mk H;clear H;have wm:0<=((RC):Int):=of_decide_eq_true (by first | (with_reducible assumption) | assumption);have wo:(RC)<(l0.length:Int):=of_decide_eq_true (by first | (with_reducible assumption) | assumption);obtain⟨AJd,AIF,AFh⟩:=Kd.vE HR0.out (RC) wm wo;cases AIF
            replace wm:=eq_true wm
            replace wo:=eq_true wo
            go_wp2
            go_roundg k1
            case measure=>have:=HK1.out;omega
            case rel=>exact⟨(RC),(by first | rfl | (simp;done) | (simp only[<-ef]<;>(first | rfl | simp)) | (simp[*];done)),H',⟨by have:=HK1.out;omega⟩,by repeat (first | exact Ge.refl _ | apply Ge.step)⟩
          · rw[if_neg c6] at H
            have AID:((rd l0 (RC))==0)=false:=beq_eq_false_iff_ne.mpr c6;have AIE:((rd l0 (RC)) !=0)=true:=bne_iff_ne.mpr c6;obtain rfl:=ARu H;have wm:0<=((RC):Int):=of_decide_eq_true (by first | (with_reducible assumption) | assumption);have wo:(RC)<(l0.length:Int):=of_decide_eq_true (by first | (with_reducible assumption) | assumption);obtain⟨AJd,AIF,AFh⟩:=Kd.vE HR0.out (RC) wm wo;cases AIF
            replace wm:=eq_true wm
            replace wo:=eq_true wo
            go_wp2
            go_ret
            exact⟨by first | rfl | (simp;done) | (simp only[<-ef]<;>(first | rfl | simp)) | (simp[*];done),by repeat (first | exact Ge.refl _ | apply Ge.step)⟩
        · rw[if_neg c5] at H
          exact absurd H (by simp)
      · rw[if_neg c4] at H
        exact absurd H (by simp)
    · rw[if_neg c2] at H
      have AMI:decide (0<oI)=false:=decide_eq_false c2;clear c2;obtain rfl:=ARu H
      go_wp2
      go_ret
      exact⟨by first | rfl | (simp;done) | (simp[*];done),by repeat (first | exact Ge.refl _ | apply Ge.step)⟩
/-! ### nat_Trim: function 187 -/
def Ap.f (k:Nat) (l0:List Int):Option (List Int):=(some (([]:List Int):List Int)).bind λYV=>((BZ.f k l0).bind λt117=>(if 0<=t117 then(if t117<=(l0.length:Int) then(if YV.length+(l0.take (t117:Int).toNat).length<17592186044416 then(some (YV++(l0.take (t117:Int).toNat))) else(none)) else(none)) else(none)))
set_option maxHeartbeats 8000000 in
set_option maxRecDepth 100000 in
theorem Ap.calls (k:Nat) (A0:Option Addr) (c0:Nat) (l0 r:List Int) (w:World) (WN:Kd.C (Kd.int .u64) w A0 l0.length l0) (hc0:l0.length<=c0) (h:Ap.f k l0=some r) :
 Calls Tryz.prog 187 #[.slice A0 l0.length c0] w λe w'=> ∃v0_:Value,e= .returned (v0_)/\Kd.R (Kd.int .u64) 73 w' w.heap.size (λ_=>True) v0_ r/\Below w.heap.size w w':=by
 have HR0:=Bn.mk WN;have HC0:=Bn.mk hc0;clear WN hc0;have HB:=Bn.mk (Below.refl w.heap.size w);have H:((some (([]:List Int):List Int)).bind λYV=>((BZ.f k l0).bind λt117=>(if 0<=t117 then(if t117<=(l0.length:Int) then(if YV.length+(l0.take (t117:Int).toNat).length<17592186044416 then(some (YV++(l0.take (t117:Int).toNat))) else(none)) else(none)) else(none))))=some r:=h;clear h;obtain⟨YV,sY⟩ : ∃y_:List Int,y_=(([]:List Int)):=⟨_,rfl⟩
 replace H:((BZ.f k l0).bind λt117=>(if 0<=t117 then(if t117<=(l0.length:Int) then(if YV.length+(l0.take (t117:Int).toNat).length<17592186044416 then(some (YV++(l0.take (t117:Int).toNat))) else(none)) else(none)) else(none)))=some r:=by first | (rw[sY];with_reducible exact H) | (have oJ:=(AQx _ _).symm.trans H;rw[sY];with_reducible exact oJ) | (have oJ:=(AQx _ _).symm.trans H;with_reducible exact oJ) | with_reducible exact H | (rw[sY];exact H) | exact H
 have AGM:=Bn.mk sY;clear sY
 replace H:=ARN.mp H
 obtain⟨t117,A20,H⟩:=H
 replace H:(if 0<=t117 then(if t117<=(l0.length:Int) then(if YV.length+(l0.take (t117:Int).toNat).length<17592186044416 then(some (YV++(l0.take (t117:Int).toNat))) else(none)) else(none)) else(none))=some r:=H
 have A2:=Bn.mk A20;clear A20;by_cases c3:0<=t117
 · rw[if_pos c3] at H
   have APT:=eq_true c3;have APU:decide (0<=t117)=true:=decide_eq_true c3;clear c3;by_cases c4:t117<=(l0.length:Int)
   · rw[if_pos c4] at H
     have AMJ:=eq_true c4;have APV:decide (t117<=(l0.length:Int))=true:=decide_eq_true c4;clear c4;by_cases c5:YV.length+(l0.take (t117:Int).toNat).length<17592186044416
     · rw[if_pos c5] at H
       have AMK:=Bn.mk c5;clear c5;obtain⟨AML,sZ⟩ : ∃y_:List Int,y_=(YV++(l0.take (t117:Int).toNat)):=⟨_,rfl⟩
       replace H:(some AML)=some r:=by first | (rw[sZ];with_reducible exact H) | (have oJ:=(AQx _ _).symm.trans H;rw[sZ];with_reducible exact oJ) | (have oJ:=(AQx _ _).symm.trans H;with_reducible exact oJ) | with_reducible exact H | (rw[sZ];exact H) | exact H
       have AJe:=Bn.mk sZ;clear sZ;obtain rfl:=ARu H
       go_enter Tryz.func187,Tryz.ntmps187
       go_wp2_with (first | ((with_reducible refine qP (N:=3) rfl ?_);refine Kd.AIo (Kd.int .u64) _ 73 ?hg (N:=3) ?hd (xs:=([]:List Int)) (inner:= []) (ok:=λ_=>True) (U3:=λ_=>True) ?hr ?hp (λ_ hk=>hk) trivial (Below.refl _ _) (AP1 _) (by simp) ?_;(case hd=>rfl);(case hg=>rfl);(case hr=>first | (go_simp;done) | (go_simp;rfl));(case hp=>exact(Bw.none _ _));intro AMM w6 ho7 hb hg_ ADT;clear hg_ ADT;(first | rw[<-AGM.out] at ho7 | (simp only[Int.reduceToNat] at ho7;rw[<-AGM.out] at ho7));have sj:=Bn.mk (Kd.aq ho7 (J7 (by repeat (first | (with_reducible first | exact HB.out | apply BK | apply At | apply Bv) | exact HB.out))));have sk:=Bn.mk (U4 (by repeat (first | (with_reducible first | exact HB.out | apply BK | apply At | apply Bv) | exact HB.out)) hb);clear HB;have AGN:=sj;have HB:=sk;clear sj sk;clear hb ho7) | ((with_reducible refine Yu (f:=192) rfl ?_);refine ABY (some 6) rfl rfl Tryz.func192 (by kernel_rfl) rfl #[.slice A0 l0.length c0] rfl (by(try simp only[ASb,AQP,ASt]);first | done | rfl | (simp only[AQR,APx];rfl) | (simp only[*];done)) ?_;(with_reducible refine(BZ.calls k _ _ l0 t117 _ ?ADU ?ADV A2.out).mono ?_);(case ADU=>repeat (first | exact(Kd.PA HR0.out HB.out) | (with_reducible refine Kd.Vv ?_ _) | (with_reducible refine Kd.Vx ?_ _) | (with_reducible refine Kd.cF ?_)));(case ADV=>exact HC0.out);rintro e w' ⟨rfl,⟨nd,rfl⟩⟩;refine⟨_,rfl, ?_⟩;obtain⟨i08,AJf,_,AJg,_⟩:=info_parts dO;obtain⟨AO9,hA8,hC8⟩:=g6 (P:=Tryz.prog) (Value.int .u64) 0 43 73 .i64 Tryz.underlying43 AJf AJg A0 c0 l0 t117 (of_decide_eq_true (by first | (with_reducible assumption) | assumption)) (of_decide_eq_true (by first | (with_reducible assumption) | assumption)) HC0.out;have AGO:=Bn.mk (Kd.vC (h1:=λ_=>rfl) (hA8 _ (Kd.cE HR0.out)));have APA:=Bn.mk hC8;clear hA8 hC8 AJf AJg) | ((with_reducible refine PC (b:= .append) (xs:= #[.tmp 3, .tmp 7]) rfl ?_);at_builtin;refine Kd.g8 (Kd.int .u64) (w0:=w) w.heap.size rfl (.tmp 3) (.tmp 7) 43 73 (.int .u64 0) 8 rfl Tryz.underlying43 dO rfl (by decide) (by omega) AMM YV (l0.take (t117:Int).toNat) _ _ _ (λ_=>True) (λ_=>False) rfl rfl ?aO ?aR (λ_ _ h=>h) (λ_ h=>h.elim) ?aF ?aB ?aS ?aL ?_;(case aR=>first | (refine lZ (show(l0.take (t117:Int).toNat).length=t117.toNat from(by rw[APx];have h_:(t117:Int)<=(l0.length:Int):=of_decide_eq_true (by first | (with_reducible assumption) | assumption);omega)) ?_;repeat (first | exact(Kd.PA AGO.out (by repeat (first | (with_reducible first | exact HB.out | apply BK | apply At | apply Bv) | exact HB.out))) | (with_reducible refine Kd.Vv ?_ _) | (with_reducible refine Kd.Vx ?_ _) | (with_reducible refine Kd.cF ?_))) | (repeat (first | exact(Kd.PA AGO.out (by repeat (first | (with_reducible first | exact HB.out | apply BK | apply At | apply Bv) | exact HB.out))) | (with_reducible refine Kd.Vv ?_ _) | (with_reducible refine Kd.Vx ?_ _) | (with_reducible refine Kd.cF ?_))));(case aB=>exact(by repeat (first | (with_reducible first | exact HB.out | apply BK | apply At | apply Bv) | exact HB.out)));(case aF=>exact(λ_ _=>trivial));(case aO=>exact(by(with_reducible repeat (first | apply Kd.KZ | apply Kd.Ka | apply Kd.Nu));exact AGN.out));(case aS=>exact(J7 (by repeat (first | (with_reducible first | exact HB.out | apply BK | apply At | apply Bv) | exact HB.out))));(case aL=>have:=AMK.out;have APW:=(show(l0.take (t117:Int).toNat).length=t117.toNat from(by rw[APx];have h_:(t117:Int)<=(l0.length:Int):=of_decide_eq_true (by first | (with_reducible assumption) | assumption);omega));omega);intro APX w9 ho hb hg Nt;rw[<-AJe.out] at ho;have sj:=Bn.mk (hb);have sk:=Bn.mk (ho);clear HB;clear AGN;have HB:=sj;have AJh:=sk;clear sj sk;clear ho hb hg Nt))
       go_ret
       exact⟨_,by first | rfl | (simp[J8,KA]<;>rfl) | (simp[*,J8,KA]<;>rfl),by(with_reducible repeat (first | apply Kd.KZ | apply Kd.Ka | apply Kd.Nu));exact AJh.out,by repeat (first | (with_reducible first | exact HB.out | apply BK | apply At | apply Bv) | exact HB.out)⟩
     · rw[if_neg c5] at H
       exact absurd H (by simp)
   · rw[if_neg c4] at H
     exact absurd H (by simp)
 · rw[if_neg c3] at H
   exact absurd H (by simp)
/-! ### nat_Of: function 113 -/
def Ig.f (k:Nat) (a0:Int):Option (List Int):=(Ap.f k (([a0]:List Int))).bind λAMN=>(some AMN)
/-! ### nat_Cmp: function 153 -/
def Dl.l0:Nat->List Int->List Int->Int->Option (Int)
 | 0,_,_,_=>none
 | k+1,x0,x1,x7=>if x7>=0 then(if 0<=x7 then(if x7<(x0.length:Int) then(if x7<(x1.length:Int) then(if(rd x0 x7)<(rd x1 x7) then(some (-1)) else(if(rd x0 x7)>(rd x1 x7) then(some 1) else(Dl.l0 k x0 x1 (wrap64 (x7-1))))) else(none)) else(none)) else(none)) else(some 0)
def Dl.f (k:Nat) (l0 l1:List Int):Option (Int):=(BZ.f k l0).bind λAIH=>((BZ.f k l1).bind λAJi=>(if AIH=AJi then(Dl.l0 k l0 l1 (wrap64 (AIH-1))) else(if AIH<AJi then(some (-1)) else(some 1))))
/-! ### limb_Len: function 87 -/
def BF.l0:Nat->Int->Int->Int->Option (Int)
 | 0,_,_,_=>none
 | k+1,x0,x3,x4=>if x4>0 then(if 0<=x4 then(if(shr .u64 x0 x4)>0 then(BF.l0 k (shr .u64 x0 x4) (wrap64 (x3+x4)) (x4/2)) else(BF.l0 k x0 x3 (x4/2))) else(none)) else(some (wrap64 (x3+(wrap64 (x0)))))
def BF.f (k:Nat) (a0:Int):Option (Int):=BF.l0 k a0 0 32
/-! ### limb_digit: function 150 -/
mutual
def Bh.l0:Nat->Int->Int->Int->Int->Int->Int->Int->Option (Int × Int)
 | 0,_,_,_,_,_,_,_=>none
 | k+1,x0,x1,x2,x8,x9,Ik,Lr=>if Ik>4294967295 then(Bh.j1 k x0 x1 x2 x8 x9 Ik Lr true) else(Bh.j1 k x0 x1 x2 x8 x9 Ik Lr (decide ((IntKind.u64.wrap (Ik*x8))>(Go.bits .or .u64 (IntKind.u64.wrap (Lr*4294967296)) x1))))
def Bh.j1:Nat->Int->Int->Int->Int->Int->Int->Int->Bool->Option (Int × Int)
 | 0,_,_,_,_,_,_,_,_=>none
 | k+1,x0,x1,x2,x8,x9,Ik,Lr,YW=>if YW=true then(if(IntKind.u64.wrap (Lr+x9))>4294967295 then(some (IntKind.u64.wrap (Ik-1),IntKind.u64.wrap ((IntKind.u64.wrap ((IntKind.u64.wrap (x0*4294967296))+x1))-(IntKind.u64.wrap ((IntKind.u64.wrap (Ik-1))*x2))))) else(Bh.l0 k x0 x1 x2 x8 x9 (IntKind.u64.wrap (Ik-1)) (IntKind.u64.wrap (Lr+x9)))) else(some (Ik,IntKind.u64.wrap ((IntKind.u64.wrap ((IntKind.u64.wrap (x0*4294967296))+x1))-(IntKind.u64.wrap (Ik*x2)))))
end
def Bh.f (k:Nat) (a0 a1 a2:Int):Option (Int × Int):=if(a2/4294967296)=0 then(none) else(Bh.l0 k a0 a1 a2 (Go.bits .and .u64 a2 4294967295) (a2/4294967296) (IntKind.u64.wrap (Int.tdiv a0 (a2/4294967296))) (Int.tmod a0 (a2/4294967296)))
/-! ### limb_Div: function 122 -/
def Hh.f (k:Nat) (a0 a1 a2:Int):Option (Int × Int × Bool):=if a0>=a2 then(some (0,0,false)) else((BF.f k a2).bind λoK=>(if 0<=(wrap64 (64-oK)) then(if 0<=(wrap64 (63-(wrap64 (64-oK)))) then((Bh.f k (Go.bits .or .u64 (shl .u64 a0 (wrap64 (64-oK))) (shr .u64 (a1/2) (wrap64 (63-(wrap64 (64-oK)))))) ((shl .u64 a1 (wrap64 (64-oK)))/4294967296) (shl .u64 a2 (wrap64 (64-oK)))).bind λAGP=>((Bh.f k AGP.2 (Go.bits .and .u64 (shl .u64 a1 (wrap64 (64-oK))) 4294967295) (shl .u64 a2 (wrap64 (64-oK)))).bind λAGQ=>(some (Go.bits .or .u64 (IntKind.u64.wrap (AGP.1*4294967296)) AGQ.1,shr .u64 AGQ.2 (wrap64 (64-oK)),true)))) else(none)) else(none)))
/-! ### quot_Word: function 154 -/
def DI.l0:Nat->List Int->Int->List Int->Int->Int->Option (List Int × Int × Bool)
 | 0,_,_,_,_,_=>none
 | k+1,x0,x1,x7,x8,x9=>if x9>=0 then(if 0<=x9 then(if x9<(x0.length:Int) then((Hh.f k x8 (rd x0 x9) x1).bind λAGR=>(if x9<(x7.length:Int) then(DI.l0 k x0 x1 (x7.set (x9:Int).toNat AGR.1) AGR.2.1 (wrap64 (x9-1))) else(none))) else(none)) else(none)) else((Ap.f k x7).bind λAMO=>(some (AMO,x8,true)))
def DI.f (k:Nat) (l0:List Int) (a1:Int):Option (List Int × Int × Bool):=if a1=0 then(some (([]:List Int),0,false)) else(if 0<=(l0.length:Int) then(if((l0.length:Int):Int).toNat<=35184372088832 then(DI.l0 k l0 a1 (List.replicate ((l0.length:Int):Int).toNat 0) 0 (wrap64 ((l0.length:Int)-1))) else(none)) else(none))
/-! ### nat_Shl: function 210 -/
def B0.l0:Nat->Int->List Int->Int->List Int->Int->Int->Option (List Int)
 | 0,_,_,_,_,_,_=>none
 | k+1,x6,x7,x8,zU,x26,x27=>if x27<x26 then(if 0<=x27 then(if x27<(zU.length:Int) then(if x7.length<17592186044416 then(B0.l0 k x6 (x7++ [Go.bits .or .u64 (IntKind.u64.wrap ((rd zU x27)*2^x6.toNat)) x8]) (((rd zU x27)/2)/2^(63-x6).toNat) zU x26 (wrap64 (x27+1))) else(none)) else(none)) else(none)) else(if x7.length<17592186044416 then((Ap.f k (x7++ [x8])).bind λt163=>(some t163)) else(none))
def B0.f (k:Nat) (l0:List Int) (a1:Int):Option (List Int):=if((mn (mx a1 0) 65536)/64)>=0 then(if((mn (mx a1 0) 65536)/64)<=(wrap64 ((wrap64 (((mn (mx a1 0) 65536)/64)+(l0.length:Int)))+1)) then(if(wrap64 ((wrap64 (((mn (mx a1 0) 65536)/64)+(l0.length:Int)))+1):Int).toNat<=35184372088832 then(B0.l0 k ((mn (mx a1 0) 65536)%64) (List.replicate ((mn (mx a1 0) 65536)/64:Int).toNat 0) 0 l0 (l0.length:Int) 0) else(none)) else(none)) else(none)
set_option maxHeartbeats 8000000 in
set_option maxRecDepth 100000 in
theorem B0.calls (k:Nat) (A0:Option Addr) (c0:Nat) (l0:List Int) (a1:Int) (r:List Int) (w:World) (WN:Kd.C (Kd.int .u64) w A0 l0.length l0) (hc0:l0.length<=c0) (h:B0.f k l0 a1=some r) :
 Calls Tryz.prog 210 #[.slice A0 l0.length c0, .int .i64 a1] w λe w'=> ∃v0_:Value,e= .returned (v0_)/\Kd.R (Kd.int .u64) 73 w' w.heap.size (λ_=>True) v0_ r/\Below w.heap.size w w':=by
 have HR0:=Bn.mk WN;have HC0:=Bn.mk hc0;clear WN hc0;have HB:=Bn.mk (Below.refl w.heap.size w);have H:(if((mn (mx a1 0) 65536)/64)>=0 then(if((mn (mx a1 0) 65536)/64)<=(wrap64 ((wrap64 (((mn (mx a1 0) 65536)/64)+(l0.length:Int)))+1)) then(if(wrap64 ((wrap64 (((mn (mx a1 0) 65536)/64)+(l0.length:Int)))+1):Int).toNat<=35184372088832 then(B0.l0 k ((mn (mx a1 0) 65536)%64) (List.replicate ((mn (mx a1 0) 65536)/64:Int).toNat 0) 0 l0 (l0.length:Int) 0) else(none)) else(none)) else(none))=some r:=h;clear h;obtain⟨RC,ef⟩ : ∃j_:Int,(mx a1 0)=j_:=⟨_,rfl⟩
 replace H:(if((mn (RC) 65536)/64)>=0 then(if((mn (RC) 65536)/64)<=(wrap64 ((wrap64 (((mn (RC) 65536)/64)+(l0.length:Int)))+1)) then(if(wrap64 ((wrap64 (((mn (RC) 65536)/64)+(l0.length:Int)))+1):Int).toNat<=35184372088832 then(B0.l0 k ((mn (RC) 65536)%64) (List.replicate ((mn (RC) 65536)/64:Int).toNat 0) 0 l0 (l0.length:Int) 0) else(none)) else(none)) else(none))=some r:=by first | (rw[ef] at H;exact H) | (simp only[ef] at H ⊢;exact H)
 (try (have APB:0<=RC:=by(rw[<-ef];unfold mx;(repeat' split)<;>omega)))
 (try (have APC:0<=RC:=by omega))
 (try (have APD : ∀m_:Int,Int.tdiv RC m_=RC/m_:=λm_=>AQd (by omega)))
 have APE:(if a1<0 then 0 else a1)=RC:=ef;obtain⟨VQ,ADW⟩ : ∃j_:Int,(mn (RC) 65536)=j_:=⟨_,rfl⟩
 replace H:(if((VQ)/64)>=0 then(if((VQ)/64)<=(wrap64 ((wrap64 (((VQ)/64)+(l0.length:Int)))+1)) then(if(wrap64 ((wrap64 (((VQ)/64)+(l0.length:Int)))+1):Int).toNat<=35184372088832 then(B0.l0 k ((VQ)%64) (List.replicate ((VQ)/64:Int).toNat 0) 0 l0 (l0.length:Int) 0) else(none)) else(none)) else(none))=some r:=by first | (rw[ADW] at H;exact H) | (simp only[ADW] at H ⊢;exact H)
 have APF:(if 65536<(RC) then 65536 else(RC))=VQ:=ADW;by_cases c5:((VQ)/64)>=0
 · rw[if_pos c5] at H
   have AJc:=eq_true c5;have AMP:decide (((VQ)/64)>=0)=true:=decide_eq_true c5;clear c5;by_cases c6:((VQ)/64)<=(wrap64 ((wrap64 (((VQ)/64)+(l0.length:Int)))+1))
   · rw[if_pos c6] at H
     have AID:=eq_true c6;have AIE:decide (((VQ)/64)<=(wrap64 ((wrap64 (((VQ)/64)+(l0.length:Int)))+1)))=true:=decide_eq_true c6;by_cases c7:(wrap64 ((wrap64 (((VQ)/64)+(l0.length:Int)))+1):Int).toNat<=35184372088832
     · rw[if_pos c7] at H
       have AMQ:=eq_true c7;have AMR:decide ((wrap64 ((wrap64 (((VQ)/64)+(l0.length:Int)))+1):Int).toNat<=35184372088832)=true:=decide_eq_true c7;obtain⟨AJj,sr⟩ : ∃y_:List Int,y_=(List.replicate ((VQ)/64:Int).toNat 0):=⟨_,rfl⟩
       replace H:(B0.l0 k ((VQ)%64) AJj 0 l0 (l0.length:Int) 0)=some r:=by first | (rw[sr];with_reducible exact H) | (have oJ:=(AQx _ _).symm.trans H;rw[sr];with_reducible exact oJ) | (have oJ:=(AQx _ _).symm.trans H;with_reducible exact oJ) | with_reducible exact H | (rw[sr];exact H) | exact H
       have AGS:=Bn.mk sr;clear sr;have H':=Bn.mk H;clear H
       go_enter Tryz.func210,Tryz.ntmps210
       go_wp2_with (first | ((with_reducible refine qP (N:=24) rfl ?_);refine Kd.AAM (Kd.int .u64) _ 73 rfl (N:=24) rfl 43 _ _ rfl ((VQ)/64) (wrap64 ((wrap64 (((VQ)/64)+(l0.length:Int)))+1)) rfl rfl Tryz.underlying43 (.int .u64 0) 8 dO rfl (by decide) (by omega) 0 (ok:=λ_=>True) (U3:=λ_=>True) rfl (λ_ hk=>hk) trivial (of_decide_eq_true (by first | (with_reducible assumption) | assumption)) (of_decide_eq_true (by first | (with_reducible assumption) | assumption)) (AQp (AP8 _ (of_decide_eq_true (by first | (with_reducible assumption) | assumption):(wrap64 ((wrap64 (((VQ)/64)+(l0.length:Int)))+1):Int).toNat<=35184372088832)) (by omega)) (Below.refl _ _) (AP1 _) ?_;intro APY w8 ho9 hb hg_ ADT;clear hg_ ADT;(first | rw[<-AGS.out] at ho9 | (simp only[Int.reduceToNat] at ho9;rw[<-AGS.out] at ho9));have sj:=Bn.mk (Kd.aq ho9 (J7 (by repeat (first | (with_reducible first | exact HB.out | apply BK | apply At | apply Bv) | exact HB.out))));have sk:=Bn.mk (U4 (by repeat (first | (with_reducible first | exact HB.out | apply BK | apply At | apply Bv) | exact HB.out)) hb);clear HB;have AJk:=sj;have HB:=sk;clear sj sk;clear hb ho9))
       go_loopg [7,8,27] k (λkq v7 v8 v27 w'=> ∃(oL:List Int) (oM:Int) (JP:Int),v8= .int .u64 oM/\v27= .int .i64 JP/\Bn (B0.l0 kq ((VQ)%64) oL oM l0 (l0.length:Int) JP=some r)/\Bn (kq<=k)/\Bn (Kd.R (Kd.int .u64) 73 w' w.heap.size (λ_=>True) v7 oL)/\Bn (Below w.heap.size w w'))
       case atStart=>exact⟨(AJj),(0),(0),(by first | rfl | (simp;done) | (simp[*];done)),(by first | rfl | (simp;done) | (simp[*];done)),H',⟨AP1 _⟩,⟨by(with_reducible repeat (first | apply Kd.KZ | apply Kd.Ka | apply Kd.Nu));exact AJk.out⟩,⟨by repeat (first | (with_reducible first | exact HB.out | apply BK | apply At | apply Bv) | exact HB.out)⟩⟩
       case round =>
        clear H'
        try clear c2
        try clear p2
        try clear c5
        try clear AJc
        try clear AMP
        try clear c6
        try clear AID
        try clear AIE
        try clear p6
        try clear c7
        try clear AMQ
        try clear AMR
        obtain⟨oL,oM,JP,rfl,rfl,HA,HK1,AFi,HB⟩:=hrel;cases gk with
        | zero=>exact absurd HA.out (by simp[B0.l0])
        | succ k1 =>
          have H:=HA.out;clear HA;simp only[B0.l0] at H;by_cases c10:JP<(l0.length:Int)
          · rw[if_pos c10] at H
            have AJl:decide (JP<(l0.length:Int))=true:=decide_eq_true c10;clear c10;by_cases c11:0<=JP
            · rw[if_pos c11] at H
              have APG:decide (0<=JP)=true:=decide_eq_true c11;clear c11;by_cases c12:JP<(l0.length:Int)
              · rw[if_pos c12] at H
                have APH:decide (JP<(l0.length:Int))=true:=decide_eq_true c12;clear c12
                (try (have APZ:min (((VQ)%64):Int).toNat 64=(((VQ)%64):Int).toNat:=by omega))
                by_cases c14:oL.length<17592186044416
                · rw[if_pos c14] at H
                  have AJm:=Bn.mk c14;clear c14;obtain⟨AJn,su⟩ : ∃y_:List Int,y_=(oL++ [Go.bits .or .u64 (IntKind.u64.wrap ((rd l0 JP)*2^((VQ)%64).toNat)) oM]):=⟨_,rfl⟩
                  replace H:(B0.l0 k1 ((VQ)%64) AJn (((rd l0 JP)/2)/2^(63-((VQ)%64)).toNat) l0 (l0.length:Int) (wrap64 (JP+1)))=some r:=by first | (rw[su];with_reducible exact H) | (have oJ:=(AQx _ _).symm.trans H;rw[su];with_reducible exact oJ) | (have oJ:=(AQx _ _).symm.trans H;with_reducible exact oJ) | with_reducible exact H | (rw[su];exact H) | exact H
                  have AJo:=Bn.mk su;clear su
                  (try (have APa:min ((63-((VQ)%64)):Int).toNat 64=((63-((VQ)%64)):Int).toNat:=by omega))
                  have H':=Bn.mk H;clear H;have AII:0<=(JP:Int):=of_decide_eq_true (by first | (with_reducible assumption) | assumption);have AIJ:JP<(l0.length:Int):=of_decide_eq_true (by first | (with_reducible assumption) | assumption);obtain⟨API,AMS,oN⟩:=Kd.vE HR0.out JP AII AIJ;cases AMS
                  replace oN:=(HB.out.cell (World.block_lt_of_cell? w _ oN)).trans oN
                  replace AII:=eq_true AII
                  replace AIJ:=eq_true AIJ
                  go_wp2_with (first | ((with_reducible refine PC (b:= .append) (xs:= #[.tmp 31, .tmp 37]) rfl ?_);at_builtin;refine Kd.qM (Kd.int .u64) (w0:=w) w.heap.size rfl (.tmp 31) (.tmp 37) 43 73 (.int .u64 0) 8 rfl Tryz.underlying43 dO rfl (by decide) (by omega) u7 oL (Go.bits .or .u64 (IntKind.u64.wrap ((rd l0 JP)*2^((VQ)%64).toNat)) oM) [.int .u64 (Go.bits .or .u64 (IntKind.u64.wrap ((rd l0 JP)*2^((VQ)%64).toNat)) oM)] (λ_=>True) (λ_=>False) rfl rfl ?aP (λ_ hk=>hk.elim) ?aF ?aO ?aB ?aS ?aL ?_;(case aP=>exact rfl);(case aB=>exact(by repeat (first | (with_reducible first | exact HB.out | apply BK | apply At | apply Bv) | exact HB.out)));(case aF=>exact(λ_ _=>trivial));(case aO=>exact(by(with_reducible repeat (first | apply Kd.KZ | apply Kd.Ka | apply Kd.Nu));exact AFi.out));(case aS=>exact(J7 (by repeat (first | (with_reducible first | exact HB.out | apply BK | apply At | apply Bv) | exact HB.out))));(case aL=>have:=AJm.out;omega);intro APb w16 ho hb hg Nt;rw[<-AJo.out] at ho;have sj:=Bn.mk (hb);have sk:=Bn.mk (ho);clear HB;clear AFi;have HB:=sj;have AJp:=sk;clear sj sk;clear ho hb hg Nt))
                  go_roundg k1
                  case measure=>have:=HK1.out;omega
                  case rel=>exact⟨(AJn),(((rd l0 JP)/2)/2^(63-((VQ)%64)).toNat),(wrap64 (JP+1)),(by first | rfl | (simp;done) | (simp only[<-ADW]<;>(first | rfl | simp)) | (simp[*];done)),(by first | rfl | (simp;done) | (simp[*];done)),H',⟨by have:=HK1.out;omega⟩,⟨by(with_reducible repeat (first | apply Kd.KZ | apply Kd.Ka | apply Kd.Nu));exact AJp.out⟩,⟨by repeat (first | (with_reducible first | exact HB.out | apply BK | apply At | apply Bv) | exact HB.out)⟩⟩
                · rw[if_neg c14] at H
                  exact absurd H (by simp)
              · rw[if_neg c12] at H
                exact absurd H (by simp)
            · rw[if_neg c11] at H
              exact absurd H (by simp)
          · rw[if_neg c10] at H
            have AJl:decide (JP<(l0.length:Int))=false:=decide_eq_false c10;clear c10;by_cases c17:oL.length<17592186044416
            · rw[if_pos c17] at H
              have AJq:=Bn.mk c17;clear c17;obtain⟨AIK,sw⟩ : ∃y_:List Int,y_=(oL++ [oM]):=⟨_,rfl⟩
              replace H:((Ap.f k1 AIK).bind λt163=>(some t163))=some r:=by first | (rw[sw];with_reducible exact H) | (have oJ:=(AQx _ _).symm.trans H;rw[sw];with_reducible exact oJ) | (have oJ:=(AQx _ _).symm.trans H;with_reducible exact oJ) | with_reducible exact H | (rw[sw];exact H) | exact H
              have AJr:=Bn.mk sw;clear sw
              replace H:=ARN.mp H
              obtain⟨t163,AJs,H⟩:=H
              replace H:(some t163)=some r:=H
              have A18:=Bn.mk AJs;clear AJs;obtain rfl:=ARu H
              go_wp2_with (first | ((with_reducible refine PC (b:= .append) (xs:= #[.tmp 45, .tmp 47]) rfl ?_);at_builtin;refine Kd.qM (Kd.int .u64) (w0:=w) w.heap.size rfl (.tmp 45) (.tmp 47) 43 73 (.int .u64 0) 8 rfl Tryz.underlying43 dO rfl (by decide) (by omega) u7 oL oM [.int .u64 oM] (λ_=>True) (λ_=>False) rfl rfl ?aP (λ_ hk=>hk.elim) ?aF ?aO ?aB ?aS ?aL ?_;(case aP=>exact rfl);(case aB=>exact(by repeat (first | (with_reducible first | exact HB.out | apply BK | apply At | apply Bv) | exact HB.out)));(case aF=>exact(λ_ _=>trivial));(case aO=>exact(by(with_reducible repeat (first | apply Kd.KZ | apply Kd.Ka | apply Kd.Nu));exact AFi.out));(case aS=>exact(J7 (by repeat (first | (with_reducible first | exact HB.out | apply BK | apply At | apply Bv) | exact HB.out))));(case aL=>have:=AJq.out;omega);intro APc w19 ho hb hg Nt;rw[<-AJr.out] at ho;have sj:=Bn.mk (hb);have sk:=Bn.mk (ho);clear HB;clear AFi;have HB:=sj;have eg:=sk;clear sj sk;clear ho hb hg Nt;obtain⟨AMT,AMU,AMV⟩:=Kd.AET eg.out;subst AMV) | ((with_reducible refine Yu (f:=187) rfl ?_);refine ABY (some 49) rfl rfl Tryz.func187 (by kernel_rfl) rfl #[.slice AMT AIK.length AMU] rfl (by(try simp only[ASb,AQP,ASt]);first | done | rfl | (simp only[AQR,APx];rfl) | (simp only[*];done)) ?_;(with_reducible refine(Ap.calls k1 _ _ AIK t163 _ ?ADU ?ADV A18.out).mono ?_);(case ADU=>repeat (first | exact(Kd.qN eg.out).2.2 | (with_reducible refine Kd.Vv ?_ _) | (with_reducible refine Kd.Vx ?_ _) | (with_reducible refine Kd.cF ?_)));(case ADV=>exact(Kd.qN eg.out).2.1);rintro e w21 ⟨APd,rfl,ho0,hb⟩;refine⟨_,rfl, ?_⟩;have sj:=Bn.mk (Kd.ABX (by(with_reducible repeat (first | apply Kd.KZ | apply Kd.Ka | apply Kd.Nu));exact eg.out) (Kd.AG8 ho0) hb);have sk:=Bn.mk (Kd.aq (Kd.AHA ho0 (Kd.ALn (by(with_reducible repeat (first | apply Kd.KZ | apply Kd.Ka | apply Kd.Nu));exact eg.out))) (J7 (by repeat (first | (with_reducible first | exact HB.out | apply BK | apply At | apply Bv) | exact HB.out))));have n2_:=Bn.mk (U4 (by repeat (first | (with_reducible first | exact HB.out | apply BK | apply At | apply Bv) | exact HB.out)) hb);clear eg;clear HB;have eg:=sj;have AJt:=sk;have HB:=n2_;clear sj sk n2_;(try clear hb);(try clear qB);(try clear hk);(try clear hi);(try clear ho0)))
              go_ret
              exact⟨_,by first | rfl | (simp[J8,KA]<;>rfl) | (simp only[<-ef,<-ADW];first | rfl | (simp[J8,KA]<;>rfl)) | (simp[*,J8,KA]<;>rfl),by(with_reducible repeat (first | apply Kd.KZ | apply Kd.Ka | apply Kd.Nu));exact Kd.cD AJt.out (λ_ hk=>trivial),by repeat (first | (with_reducible first | exact HB.out | apply BK | apply At | apply Bv) | exact HB.out)⟩
            · rw[if_neg c17] at H
              exact absurd H (by simp)
     · rw[if_neg c7] at H
       exact absurd H (by simp)
   · rw[if_neg c6] at H
     exact absurd H (by simp)
 · rw[if_neg c5] at H
   exact absurd H (by simp)
/-! ### nat_Bits: function 114 -/
def Cd.f (k:Nat) (l0:List Int):Option (Int):=(BZ.f k l0).bind λADX=>(if ADX=0 then(some 0) else(if 0<=(wrap64 (ADX-1)) then(if(wrap64 (ADX-1))<(l0.length:Int) then((BF.f k (rd l0 (wrap64 (ADX-1)))).bind λAMW=>(some (wrap64 ((wrap64 (64*(wrap64 (ADX-1))))+AMW)))) else(none)) else(none)))
/-! ### nat_Shr: function 116 -/
def D8.l0:Nat->List Int->Int->List Int->Int->Option (List Int)
 | 0,_,_,_,_=>none
 | k+1,x0,x6,x7,x8=>if x8<(x0.length:Int) then(if(wrap64 (x8+1))<(x0.length:Int) then(if 0<=(wrap64 (x8+1)) then(if 0<=x8 then(if x7.length<17592186044416 then(D8.l0 k x0 x6 (x7++ [Go.bits .or .u64 ((rd x0 x8)/2^x6.toNat) (IntKind.u64.wrap ((IntKind.u64.wrap ((rd x0 (wrap64 (x8+1)))*2))*2^(63-x6).toNat))]) (wrap64 (x8+1))) else(none)) else(none)) else(none)) else(if 0<=x8 then(if x7.length<17592186044416 then(D8.l0 k x0 x6 (x7++ [Go.bits .or .u64 ((rd x0 x8)/2^x6.toNat) 0]) (wrap64 (x8+1))) else(none)) else(none))) else((Ap.f k x7).bind λAMX=>(some AMX))
def D8.f (k:Nat) (l0:List Int) (a1:Int):Option (List Int):=if(wrap64 ((mx a1 0)/64))>=(l0.length:Int) then(some ([]:List Int)) else(if 0<=(wrap64 ((l0.length:Int)-(wrap64 ((mx a1 0)/64)))) then(if(wrap64 ((l0.length:Int)-(wrap64 ((mx a1 0)/64))):Int).toNat<=35184372088832 then(D8.l0 k l0 ((mx a1 0)%64) (List.replicate 0 0) (wrap64 ((mx a1 0)/64))) else(none)) else(none))
/-! ### limb_Mul: function 120 -/
def DZ.f (a0 a1:Int):Option (Int × Int):=some (IntKind.u64.wrap ((IntKind.u64.wrap ((IntKind.u64.wrap ((a0/4294967296)*(a1/4294967296)))+((IntKind.u64.wrap ((IntKind.u64.wrap ((Go.bits .and .u64 a0 4294967295)*(a1/4294967296)))+((IntKind.u64.wrap ((Go.bits .and .u64 a0 4294967295)*(Go.bits .and .u64 a1 4294967295)))/4294967296)))/4294967296)))+((IntKind.u64.wrap ((IntKind.u64.wrap ((a0/4294967296)*(Go.bits .and .u64 a1 4294967295)))+(Go.bits .and .u64 (IntKind.u64.wrap ((IntKind.u64.wrap ((Go.bits .and .u64 a0 4294967295)*(a1/4294967296)))+((IntKind.u64.wrap ((Go.bits .and .u64 a0 4294967295)*(Go.bits .and .u64 a1 4294967295)))/4294967296))) 4294967295)))/4294967296)),Go.bits .or .u64 (IntKind.u64.wrap ((IntKind.u64.wrap ((IntKind.u64.wrap ((a0/4294967296)*(Go.bits .and .u64 a1 4294967295)))+(Go.bits .and .u64 (IntKind.u64.wrap ((IntKind.u64.wrap ((Go.bits .and .u64 a0 4294967295)*(a1/4294967296)))+((IntKind.u64.wrap ((Go.bits .and .u64 a0 4294967295)*(Go.bits .and .u64 a1 4294967295)))/4294967296))) 4294967295)))*4294967296)) (Go.bits .and .u64 (IntKind.u64.wrap ((Go.bits .and .u64 a0 4294967295)*(Go.bits .and .u64 a1 4294967295))) 4294967295))
/-! ### limb_Sub: function 163 -/
def Eg.f (a0 a1 a2:Int):Option (Int × Int):=if a0<a1 then(if(IntKind.u64.wrap (a0-a1))<a2 then(some (IntKind.u64.wrap ((IntKind.u64.wrap (a0-a1))-a2),(0+1)+1)) else(some (IntKind.u64.wrap ((IntKind.u64.wrap (a0-a1))-a2),0+1))) else(if(IntKind.u64.wrap (a0-a1))<a2 then(some (IntKind.u64.wrap ((IntKind.u64.wrap (a0-a1))-a2),0+1)) else(some (IntKind.u64.wrap ((IntKind.u64.wrap (a0-a1))-a2),0)))
/-! ### quot_correct: function 162 -/
def BI.l0:Nat->Int->Int->Int->Int->Int->Int->Option (Int)
 | 0,_,_,_,_,_,_=>none
 | k+1,x0,x1,x2,x3,x4,x5=>(DZ.f x0 x4).bind λAGT=>((Eg.f x2 AGT.2 0).bind λADY=>((Eg.f x1 AGT.1 ADY.2).bind λAJu=>((DZ.f x0 x5).bind λADZ=>(if AJu.1=0 then(if ADZ.1<ADY.1 then(some x0) else(if ADZ.1=ADY.1 then(if ADZ.2<=x3 then(some x0) else(BI.l0 k (IntKind.u64.wrap (x0-1)) x1 x2 x3 x4 x5)) else(BI.l0 k (IntKind.u64.wrap (x0-1)) x1 x2 x3 x4 x5))) else(some x0)))))
def BI.f (k:Nat) (a0 a1 a2 a3 a4 a5:Int):Option (Int):=BI.l0 k a0 a1 a2 a3 a4 a5
/-! ### quot_guess: function 158 -/
def Ft.f (k:Nat) (l0:List Int) (a1 a2 a3:Int):Option (Int):=if 0<=a1 then(if a1<(l0.length:Int) then(if 0<=(wrap64 (a1-1)) then(if(wrap64 (a1-1))<(l0.length:Int) then(if 0<=(wrap64 (a1-2)) then(if(wrap64 (a1-2))<(l0.length:Int) then(if(rd l0 a1)>=a2 then((BI.f k 18446744073709551615 (rd l0 a1) (rd l0 (wrap64 (a1-1))) (rd l0 (wrap64 (a1-2))) a2 a3).bind λAMY=>(some AMY)) else((Hh.f k (rd l0 a1) (rd l0 (wrap64 (a1-1))) a2).bind λAJv=>((BI.f k AJv.1 (rd l0 a1) (rd l0 (wrap64 (a1-1))) (rd l0 (wrap64 (a1-2))) a2 a3).bind λAMZ=>(some AMZ)))) else(none)) else(none)) else(none)) else(none)) else(none)) else(none)
/-! ### limb_Add: function 147 -/
def Dn.f (a0 a1 a2:Int):Option (Int × Int):=if(IntKind.u64.wrap (a0+a1))<a0 then(if(IntKind.u64.wrap ((IntKind.u64.wrap (a0+a1))+a2))<(IntKind.u64.wrap (a0+a1)) then(some (IntKind.u64.wrap ((IntKind.u64.wrap (a0+a1))+a2),(0+1)+1)) else(some (IntKind.u64.wrap ((IntKind.u64.wrap (a0+a1))+a2),0+1))) else(if(IntKind.u64.wrap ((IntKind.u64.wrap (a0+a1))+a2))<(IntKind.u64.wrap (a0+a1)) then(some (IntKind.u64.wrap ((IntKind.u64.wrap (a0+a1))+a2),0+1)) else(some (IntKind.u64.wrap ((IntKind.u64.wrap (a0+a1))+a2),0)))
/-! ### quot_take: function 159 -/
def Cm.l0:Nat->List Int->List Int->Int->Int->Int->Int->List Int->Int->Int->Option (Bool × List Int)
 | 0,_,_,_,_,_,_,_,_,_=>none
 | k+1,x0,x1,x2,x3,x9,Ik,ZA,Qn,N3=>if N3<Qn then(if 0<=N3 then(if N3<(ZA.length:Int) then((DZ.f (rd ZA N3) x3).bind λAGU=>((Dn.f AGU.2 x9 0).bind λAGV=>(if 0<=(wrap64 (x2+N3)) then(if(wrap64 (x2+N3))<(x0.length:Int) then((Eg.f (rd x0 (wrap64 (x2+N3))) AGV.1 Ik).bind λAGW=>(Cm.l0 k (x0.set ((wrap64 (x2+N3)):Int).toNat AGW.1) x1 x2 x3 (IntKind.u64.wrap (AGU.1+AGV.2)) AGW.2 ZA Qn (wrap64 (N3+1)))) else(none)) else(none)))) else(none)) else(none)) else(if 0<=(wrap64 (x2+(x1.length:Int))) then(if(wrap64 (x2+(x1.length:Int)))<(x0.length:Int) then((Eg.f (rd x0 (wrap64 (x2+(x1.length:Int)))) x9 Ik).bind λAGX=>(some ((AGX.2 !=0),(x0.set ((wrap64 (x2+(x1.length:Int))):Int).toNat AGX.1)))) else(none)) else(none))
def Cm.f (k:Nat) (l0 l1:List Int) (a2 a3:Int):Option (Bool × List Int):=Cm.l0 k l0 l1 a2 a3 0 0 l1 (l1.length:Int) 0
/-! ### quot_back: function 160 -/
def Cv.l0:Nat->List Int->List Int->Int->Int->List Int->Int->Int->Option (List Int)
 | 0,_,_,_,_,_,_,_=>none
 | k+1,x0,x1,x2,x6,Lr,iq,Dm=>if Dm<iq then(if 0<=Dm then(if Dm<(Lr.length:Int) then(if 0<=(wrap64 (x2+Dm)) then(if(wrap64 (x2+Dm))<(x0.length:Int) then((Dn.f (rd x0 (wrap64 (x2+Dm))) (rd Lr Dm) x6).bind λAGY=>(Cv.l0 k (x0.set ((wrap64 (x2+Dm)):Int).toNat AGY.1) x1 x2 AGY.2 Lr iq (wrap64 (Dm+1)))) else(none)) else(none)) else(none)) else(none)) else(if 0<=(wrap64 (x2+(x1.length:Int))) then(if(wrap64 (x2+(x1.length:Int)))<(x0.length:Int) then(some (x0.set ((wrap64 (x2+(x1.length:Int))):Int).toNat (IntKind.u64.wrap ((rd x0 (wrap64 (x2+(x1.length:Int))))+x6)))) else(none)) else(none))
def Cv.f (k:Nat) (l0 l1:List Int) (a2:Int):Option (List Int):=Cv.l0 k l0 l1 a2 0 l1 (l1.length:Int) 0
/-! ### quot_long: function 155 -/
mutual
def Bq.l0:Nat->List Int->Int->List Int->List Int->Option (List Int × List Int)
 | 0,_,_,_,_=>none
 | k+1,x0,x6,x7,x8=>if(x8.length:Int)<(wrap64 ((x0.length:Int)+1)) then(if x8.length<17592186044416 then(Bq.l0 k x0 x6 x7 (x8++ [0])) else(none)) else(if 0<=(wrap64 ((x8.length:Int)-(x7.length:Int))) then(if(wrap64 ((x8.length:Int)-(x7.length:Int)):Int).toNat<=35184372088832 then((some (List.replicate (wrap64 ((x8.length:Int)-(x7.length:Int)):Int).toNat 0:List Int)).bind λAJw=>(Bq.l1 k x6 x7 x8 (x7.length:Int) AJw (wrap64 ((AJw.length:Int)-1)))) else(none)) else(none))
def Bq.l1:Nat->Int->List Int->List Int->Int->List Int->Int->Option (List Int × List Int)
 | 0,_,_,_,_,_,_=>none
 | k+1,x6,x7,x8,x9,Ik,Lr=>if Lr>=0 then(if 0<=(wrap64 (x9-1)) then(if(wrap64 (x9-1))<(x7.length:Int) then(if 0<=(wrap64 (x9-2)) then(if(wrap64 (x9-2))<(x7.length:Int) then((Ft.f k x8 (wrap64 (Lr+x9)) (rd x7 (wrap64 (x9-1))) (rd x7 (wrap64 (x9-2)))).bind λAIL=>((Cm.f k x8 x7 Lr AIL).bind λADa=>(if ADa.1=true then((Cv.f k ADa.2 x7 Lr).bind λAMa=>(if 0<=Lr then(if Lr<(Ik.length:Int) then(Bq.l1 k x6 x7 AMa x9 (Ik.set (Lr:Int).toNat (IntKind.u64.wrap (AIL-1))) (wrap64 (Lr-1))) else(none)) else(none))) else(if 0<=Lr then(if Lr<(Ik.length:Int) then(Bq.l1 k x6 x7 ADa.2 x9 (Ik.set (Lr:Int).toNat AIL) (wrap64 (Lr-1))) else(none)) else(none))))) else(none)) else(none)) else(none)) else(none)) else((Ap.f k Ik).bind λAMb=>((D8.f k x8 x6).bind λAMc=>(some (AMb,AMc))))
end
def Bq.f (k:Nat) (l0 l1:List Int):Option (List Int × List Int):=(Cd.f k l1).bind λAIM=>((B0.f k l1 (wrap64 ((wrap64 (64*(l1.length:Int)))-AIM))).bind λAMd=>((B0.f k l0 (wrap64 ((wrap64 (64*(l1.length:Int)))-AIM))).bind λAMe=>(Bq.l0 k l0 (wrap64 ((wrap64 (64*(l1.length:Int)))-AIM)) AMd AMe)))
/-! ### quot_Div: function 133 -/
def Gx.f (k:Nat) (l0 l1:List Int):Option (List Int × List Int × Bool):=(Ap.f k l0).bind λAFj=>((Ap.f k l1).bind λAAx=>(if(AAx.length:Int)=0 then(some (([]:List Int),([]:List Int),false)) else((Dl.f k AFj AAx).bind λAMf=>(if AMf<0 then(some (([]:List Int),AFj,true)) else(if(AAx.length:Int)=1 then(if 0<(AAx.length:Int) then((DI.f k AFj (rd AAx 0)).bind λAGZ=>((Ig.f k AGZ.2.1).bind λAMg=>(some (AGZ.1,AMg,true)))) else(none)) else((Bq.f k AFj AAx).bind λAGa=>(some (AGa.1,AGa.2,true))))))))
/-! ### nat_Word: function 115 -/
def Iq.f (k:Nat) (l0:List Int):Option (Int × Bool):=(BZ.f k l0).bind λAJx=>(if AJx=0 then(some (0,true)) else(if AJx=1 then(if 0<(l0.length:Int) then(some (rd l0 0,true)) else(none)) else(some (0,false))))
/-! ### gcd_words: function 165 -/
def Dw.l0:Nat->Int->Int->Option (Int)
 | 0,_,_=>none
 | k+1,x0,x1=>if x1=0 then(some x0) else(Dw.l0 k x1 (Int.tmod x0 x1))
def Dw.f (k:Nat) (a0 a1:Int):Option (Int):=Dw.l0 k a0 a1
/-! ### gcd_Gcd: function 164 -/
def Em.l0:Nat->List Int->List Int->Option (List Int)
 | 0,_,_=>none
 | k+1,x0,x1=>if(x1.length:Int)>1 then((Gx.f k x0 x1).bind λAJy=>(Em.l0 k x1 AJy.2.1)) else((Iq.f k x1).bind λADb=>(if ADb.1=0 then(some x0) else((DI.f k x0 ADb.1).bind λAJz=>((Dw.f k ADb.1 AJz.2.1).bind λAMh=>((Ig.f k AMh).bind λAMi=>(some AMi))))))
def Em.f (k:Nat) (l0 l1:List Int):Option (List Int):=(Ap.f k l0).bind λAMj=>((Ap.f k l1).bind λAMk=>(Em.l0 k AMj AMk))
/-! ### gcd_Reduce: function 161 -/
def Fu.f (k:Nat) (l0 l1:List Int):Option (List Int × List Int):=(Em.f k l0 l1).bind λAIN=>(if(AIN.length:Int)=0 then(some (([]:List Int),([]:List Int))) else((Gx.f k l0 AIN).bind λAJ0=>((Gx.f k l1 AIN).bind λAJ1=>(some (AJ0.1,AJ1.1)))))
/-! ### rat_lowest: function 157 -/
def FC.f (k:Nat) (a0:Bool) (l1 l2:List Int):Option (Bool × List Int × List Int):=(Fu.f k l1 l2).bind λsy=>(if a0=true then(some (decide ((sy.1.length:Int)>0),sy.1,sy.2)) else(some (false,sy.1,sy.2)))
/-! ### prod_rows: function 144 -/
mutual
def Bm.l0:Nat->List Int->List Int->List Int->Int->Int->Option (List Int)
 | 0,_,_,_,_,_=>none
 | k+1,x1,x5,Qn,N3,Ms=>if Ms<N3 then(if 0<=Ms then(if Ms<(Qn.length:Int) then(Bm.l1 k x1 x5 Ms (rd Qn Ms) 0 Qn N3 Ms x1 (x1.length:Int) 0) else(none)) else(none)) else((Ap.f k x5).bind λAMl=>(some AMl))
def Bm.l1:Nat->List Int->List Int->Int->Int->Int->List Int->Int->Int->List Int->Int->Int->Option (List Int)
 | 0,_,_,_,_,_,_,_,_,_,_,_=>none
 | k+1,x1,x5,x6,x7,x8,Qn,N3,Ms,zW,gy,s8=>if s8<gy then(if 0<=s8 then(if s8<(zW.length:Int) then((DZ.f x7 (rd zW s8)).bind λAGb=>(if 0<=(wrap64 (x6+s8)) then(if(wrap64 (x6+s8))<(x5.length:Int) then((Dn.f (rd x5 (wrap64 (x6+s8))) AGb.2 x8).bind λAGc=>(Bm.l1 k x1 (x5.set ((wrap64 (x6+s8)):Int).toNat AGc.1) x6 x7 (IntKind.u64.wrap (AGb.1+AGc.2)) Qn N3 Ms zW gy (wrap64 (s8+1)))) else(none)) else(none))) else(none)) else(none)) else(if 0<=(wrap64 (x6+(x1.length:Int))) then(if(wrap64 (x6+(x1.length:Int)))<(x5.length:Int) then(Bm.l0 k x1 (x5.set ((wrap64 (x6+(x1.length:Int))):Int).toNat x8) Qn N3 (wrap64 (Ms+1))) else(none)) else(none))
end
def Bm.f (k:Nat) (l0 l1:List Int):Option (List Int):=if 0<=(wrap64 ((l0.length:Int)+(l1.length:Int))) then(if(wrap64 ((l0.length:Int)+(l1.length:Int)):Int).toNat<=35184372088832 then(Bm.l0 k l1 (List.replicate (wrap64 ((l0.length:Int)+(l1.length:Int)):Int).toNat 0) l0 (l0.length:Int) 0) else(none)) else(none)
/-! ### nat_Sub: function 62 -/
def DU.l0:Nat->List Int->List Int->Int->List Int->Int->Int->Option (List Int × Bool)
 | 0,_,_,_,_,_,_=>none
 | k+1,x1,x6,x7,uw,ux,ZA=>if ZA<ux then(if 0<=ZA then(if ZA<(uw.length:Int) then(if ZA<(x1.length:Int) then((Eg.f (rd uw ZA) (rd x1 ZA) x7).bind λAGd=>(if x6.length<17592186044416 then(DU.l0 k x1 (x6++ [AGd.1]) AGd.2 uw ux (wrap64 (ZA+1))) else(none))) else((Eg.f (rd uw ZA) 0 x7).bind λAGe=>(if x6.length<17592186044416 then(DU.l0 k x1 (x6++ [AGe.1]) AGe.2 uw ux (wrap64 (ZA+1))) else(none)))) else(none)) else(none)) else((Ap.f k x6).bind λAMm=>(some (AMm,true)))
def DU.f (k:Nat) (l0 l1:List Int):Option (List Int × Bool):=(Dl.f k l0 l1).bind λAMn=>(if AMn<0 then(some (([]:List Int),false)) else(if 0<=(l0.length:Int) then(if((l0.length:Int):Int).toNat<=35184372088832 then(DU.l0 k l1 (List.replicate 0 0) 0 l0 (l0.length:Int) 0) else(none)) else(none)))
/-! ### nat_Add: function 111 -/
mutual
def BQ.l0:Nat->List Int->List Int->Int->List Int->Int->Int->Option (List Int)
 | 0,_,_,_,_,_,_=>none
 | k+1,x1,x5,x6,Qn,N3,Ms=>if Ms<N3 then(if 0<=Ms then(if Ms<(Qn.length:Int) then(if Ms<(x1.length:Int) then((Dn.f (rd Qn Ms) (rd x1 Ms) x6).bind λAGf=>(if x5.length<17592186044416 then(BQ.l0 k x1 (x5++ [AGf.1]) AGf.2 Qn N3 (wrap64 (Ms+1))) else(none))) else((Dn.f (rd Qn Ms) 0 x6).bind λAGg=>(if x5.length<17592186044416 then(BQ.l0 k x1 (x5++ [AGg.1]) AGg.2 Qn N3 (wrap64 (Ms+1))) else(none)))) else(none)) else(none)) else(if x5.length<17592186044416 then((Ap.f k (x5++ [x6])).bind λAMo=>(some AMo)) else(none))
def BQ.l1:Nat->List Int->List Int->Int->List Int->Int->Int->Option (List Int)
 | 0,_,_,_,_,_,_=>none
 | k+1,x1,x5,x6,Qn,N3,Ms=>if Ms<N3 then(if 0<=Ms then(if Ms<(Qn.length:Int) then(if Ms<(x1.length:Int) then((Dn.f (rd Qn Ms) (rd x1 Ms) x6).bind λAGh=>(if x5.length<17592186044416 then(BQ.l1 k x1 (x5++ [AGh.1]) AGh.2 Qn N3 (wrap64 (Ms+1))) else(none))) else((Dn.f (rd Qn Ms) 0 x6).bind λAGi=>(if x5.length<17592186044416 then(BQ.l1 k x1 (x5++ [AGi.1]) AGi.2 Qn N3 (wrap64 (Ms+1))) else(none)))) else(none)) else(none)) else(if x5.length<17592186044416 then((Ap.f k (x5++ [x6])).bind λAMp=>(some AMp)) else(none))
end
def BQ.f (k:Nat) (l0 l1:List Int):Option (List Int):=if(l0.length:Int)<(l1.length:Int) then(if 0<=(wrap64 ((l1.length:Int)+1)) then(if(wrap64 ((l1.length:Int)+1):Int).toNat<=35184372088832 then(BQ.l0 k l0 (List.replicate 0 0) 0 l1 (l1.length:Int) 0) else(none)) else(none)) else(if 0<=(wrap64 ((l0.length:Int)+1)) then(if(wrap64 ((l0.length:Int)+1):Int).toNat<=35184372088832 then(BQ.l1 k l1 (List.replicate 0 0) 0 l0 (l0.length:Int) 0) else(none)) else(none))
/-! ### prod_part: function 160 -/
def Ez.f (k:Nat) (l0:List Int) (a1 a2:Int):Option (List Int):=if 0<=(mn a1 (l0.length:Int)) then(if(mn a1 (l0.length:Int))<=(mn a2 (l0.length:Int)) then(if(mn a2 (l0.length:Int))<=(l0.length:Int) then((Ap.f k ((l0.take ((mn a2 (l0.length:Int)):Int).toNat).drop ((mn a1 (l0.length:Int)):Int).toNat)).bind λAIO=>(some AIO)) else(none)) else(none)) else(none)
/-! ### prod_above: function 161 -/
def EW.f (k:Nat) (l0:List Int) (a1:Int):Option (List Int):=if 0<=a1 then(if(a1:Int).toNat<=35184372088832 then((some (List.replicate (a1:Int).toNat 0:List Int)).bind λAJ2=>(if AJ2.length+l0.length<17592186044416 then((Ap.f k (AJ2++l0)).bind λAMq=>(some AMq)) else(none))) else(none)) else(none)
/-! ### prod_halves: function 145 -/
def JQ.f (M:List Int->List Int->Option (List Int)) (k:Nat) (l0 l1:List Int):Option (List Int):=(Ez.f k l0 0 (wrap64 (Int.tdiv (wrap64 ((mx (l0.length:Int) (l1.length:Int))+1)) 2))).bind λAFk=>((Ez.f k l0 (wrap64 (Int.tdiv (wrap64 ((mx (l0.length:Int) (l1.length:Int))+1)) 2)) (l0.length:Int)).bind λAJ3=>((Ez.f k l1 0 (wrap64 (Int.tdiv (wrap64 ((mx (l0.length:Int) (l1.length:Int))+1)) 2))).bind λAJ4=>((Ez.f k l1 (wrap64 (Int.tdiv (wrap64 ((mx (l0.length:Int) (l1.length:Int))+1)) 2)) (l1.length:Int)).bind λAFl=>((M AFk AJ4).bind λADc=>((M AJ3 AFl).bind λAFm=>((BQ.f k AFk AJ3).bind λAMr=>((BQ.f k AJ4 AFl).bind λAMs=>((M AMr AMs).bind λAMt=>((BQ.f k ADc AFm).bind λAMu=>((DU.f k AMt AMu).bind λAJ5=>((EW.f k AJ5.1 (wrap64 (Int.tdiv (wrap64 ((mx (l0.length:Int) (l1.length:Int))+1)) 2))).bind λAMv=>((EW.f k AFm (wrap64 (2*(wrap64 (Int.tdiv (wrap64 ((mx (l0.length:Int) (l1.length:Int))+1)) 2))))).bind λAMw=>((BQ.f k AMv AMw).bind λAIP=>((BQ.f k ADc AIP).bind λAMx=>(some AMx)))))))))))))))
/-! ### prod_Mul: function 71 -/
def Dp.f:Nat->List Int->List Int->Option (List Int)
 | 0,_,_=>none
 | k+1,l0,l1=>if(l0.length:Int)<8 then((Bm.f k l0 l1).bind λAIQ=>(some AIQ)) else(if(l1.length:Int)<8 then((Bm.f k l0 l1).bind λAMy=>(some AMy)) else((JQ.f (Dp.f k) k l0 l1).bind λAMz=>(some AMz)))
/-! ### nat_Right: function 54 -/
def FP.f (l0:List Int):Option (Bool):=if(l0.length:Int)=0 then(some true) else(if 0<=(wrap64 ((l0.length:Int)-1)) then(if(wrap64 ((l0.length:Int)-1))<(l0.length:Int) then(some ((rd l0 (wrap64 ((l0.length:Int)-1))) !=0)) else(none)) else(none))
/-! ### rat_same: function 156 -/
def ML.f (k:Nat) (l0 l1:List Int):Option (Bool):=(FP.f l0).bind λAM0=>(if AM0=true then((FP.f l1).bind λAFn=>(if AFn=true then((Dl.f k l0 l1).bind λAFo=>(some (AFo==0))) else(some false))) else(some false))
/-! ### rat_sum: function 157 -/
def ND.f (k:Nat) (a0:Bool) (l1:List Int) (a2:Bool) (l3:List Int):Option (Bool × List Int):=if(a0==a2)=true then((BQ.f k l1 l3).bind λAIR=>(some (a0,AIR))) else((DU.f k l1 l3).bind λAGj=>(if AGj.2=true then(some (a0,AGj.1)) else((DU.f k l3 l1).bind λAJ6=>(some (a2,AJ6.1)))))
/-! ### rat_one: function 155 -/
def Ls.f  :Option (List Int):=some (([1]:List Int))
/-! ### rat_safe: function 158 -/
def Hi.f (k:Nat) (l0:List Int):Option (List Int):=(Cd.f k l0).bind λAM1=>(if AM1=0 then((Ls.f).bind λAIS=>(some AIS)) else(some l0))
/-! ### rat_Add: function 112 -/
def IF.f (k:Nat) (ED:Bool) (GL GR:List Int) (D7:Bool) (Wx VR:List Int):Option (Bool × List Int × List Int):=(ML.f k GR VR).bind λAM2=>(if AM2=true then((ND.f k ED GL D7 Wx).bind λAGk=>((Hi.f k GR).bind λAIT=>((FC.f k AGk.1 AGk.2 AIT).bind λADd=>(some (ADd.1,ADd.2.1,ADd.2.2))))) else((Dp.f k GL VR).bind λAM3=>((Dp.f k Wx GR).bind λAM4=>((ND.f k ED AM3 D7 AM4).bind λAGl=>((Dp.f k GR VR).bind λAM5=>((Hi.f k AM5).bind λAM6=>((FC.f k AGl.1 AGl.2 AM6).bind λADe=>(some (ADe.1,ADe.2.1,ADe.2.2)))))))))
/-! ### rat_Mul: function 116 -/
def IE.f (k:Nat) (ED:Bool) (GL GR:List Int) (D7:Bool) (Wx VR:List Int):Option (Bool × List Int × List Int):=(Hi.f k VR).bind λAM7=>((Fu.f k GL AM7).bind λAGm=>((Hi.f k GR).bind λAM8=>((Fu.f k Wx AM8).bind λAGn=>((Dp.f k AGm.1 AGn.1).bind λAM9=>((Dp.f k AGn.2 AGm.2).bind λANA=>((FC.f k (ED !=D7) AM9 ANA).bind λADf=>(some (ADf.1,ADf.2.1,ADf.2.2))))))))
/-! ### rat_Neg: function 118 -/
def Iz.f (k:Nat) (ED:Bool) (GL GR:List Int):Option (Bool × List Int × List Int):=if ED=true then((Ap.f k GL).bind λAJ7=>((Ap.f k GR).bind λADg=>(some (false,AJ7,ADg)))) else((Cd.f k GL).bind λADh=>((Ap.f k GL).bind λAJ8=>((Ap.f k GR).bind λAJ9=>(some (decide (ADh>0),AJ8,AJ9)))))
/-! ### rat_Sub: function 114 -/
def I0.f (k:Nat) (ED:Bool) (GL GR:List Int) (D7:Bool) (Wx VR:List Int):Option (Bool × List Int × List Int):=(Iz.f k D7 Wx VR).bind λwz=>((IF.f k ED GL GR wz.1 wz.2.1 wz.2.2).bind λw7=>(some (w7.1,w7.2.1,w7.2.2)))
/-! ### rat_Inv: function 109 -/
def PZ.f (k:Nat) (ED:Bool) (GL GR:List Int):Option (Bool × List Int × List Int × Int):=(Cd.f k GL).bind λANB=>(if ANB=0 then(some (false,([]:List Int),([]:List Int),4)) else((Ap.f k GR).bind λANC=>((Ap.f k GL).bind λANE=>(some (ED,ANC,ANE,0)))))
/-! ### rat_Div: function 108 -/
def I4.f (k:Nat) (ED:Bool) (GL GR:List Int) (D7:Bool) (Wx VR:List Int):Option (Bool × List Int × List Int × Int):=(PZ.f k D7 Wx VR).bind λtA=>(if tA.2.2.2=0 then((IE.f k ED GL GR tA.1 tA.2.1 tA.2.2.1).bind λADi=>(some (ADi.1,ADi.2.1,ADi.2.2,0))) else(some (false,([]:List Int),([]:List Int),tA.2.2.2)))
/-! ### bank_Bank_exact: function by hand -/
def Dk.f (k:Nat) (AX Al:Int) (Am:List (Int × Int × Int × Bool × (List Int) × List Int)) (Ao BD:List Bool) (BB BH:Int) (BJ:Bool) (BE a1:Int) (F1:Bool) (HD II:List Int) (Wy:Bool) (Wz W0:List Int):Option (Bool × List Int × List Int × Int × Int × List (Int × Int × Int × Bool × (List Int) × List Int) × List Bool × List Bool × Int × Int × Bool × Int):=if a1=3 then((Iz.f k F1 HD II).bind λAT=>(some (AT.1,AT.2.1,AT.2.2,AX,Al,Am,Ao,BD,BB,BH,BJ,BE))) else(if a1=4 then((IF.f k F1 HD II Wy Wz W0).bind λCj=>(some (Cj.1,Cj.2.1,Cj.2.2,AX,Al,Am,Ao,BD,BB,BH,BJ,BE))) else(if a1=5 then((I0.f k F1 HD II Wy Wz W0).bind λKL=>(some (KL.1,KL.2.1,KL.2.2,AX,Al,Am,Ao,BD,BB,BH,BJ,BE))) else(if a1=6 then((IE.f k F1 HD II Wy Wz W0).bind λCa=>(some (Ca.1,Ca.2.1,Ca.2.2,AX,Al,Am,Ao,BD,BB,BH,BJ,BE))) else(if a1=7 then((I4.f k F1 HD II Wy Wz W0).bind λHQ=>((A8.f k AX Al Am Ao BD BB BH BJ BE HQ.2.2.2).bind λFD=>(some (HQ.1,HQ.2.1,HQ.2.2.1,FD.1,FD.2.1,FD.2.2.1,FD.2.2.2.1,FD.2.2.2.2.1,FD.2.2.2.2.2.1,FD.2.2.2.2.2.2.1,FD.2.2.2.2.2.2.2.1,FD.2.2.2.2.2.2.2.2)))) else((A8.f k AX Al Am Ao BD BB BH BJ BE 6).bind λJH=>(some (false,([]:List Int),([]:List Int),JH.1,JH.2.1,JH.2.2.1,JH.2.2.2.1,JH.2.2.2.2.1,JH.2.2.2.2.2.1,JH.2.2.2.2.2.2.1,JH.2.2.2.2.2.2.2.1,JH.2.2.2.2.2.2.2.2)))))))
/-! ### fbits_exponent: function 85 -/
def DK.f (a0:Int):Option (Int):=some (wrap64 (Go.bits .and .u64 (a0/4503599627370496) 2047))
/-! ### fbits_Kind: function 39 -/
def A9.f (a0:Int):Option (Int):=(DK.f a0).bind λAKA=>(if AKA=2047 then(if(Go.bits .and .u64 a0 4503599627370495)=0 then(some 3) else(some 4)) else(if AKA=0 then(if(Go.bits .and .u64 a0 4503599627370495)=0 then(some 0) else(some 1)) else(some 2)))
/-! ### fbits_Nan: function 32 -/
def B5.f  :Option (Int):=some 9221120237041090560
/-! ### fbits_Flip: function 45 -/
def EV.f (a0:Int):Option (Int):=(A9.f a0).bind λAKB=>(if AKB=4 then((B5.f).bind λAKC=>(some AKC)) else(some (Go.bits .xor .u64 a0 9223372036854775808)))
/-! ### fbits_signed: function 86 -/
def DM.f (a0:Bool) (a1:Int):Option (Int):=if a0=true then(some (Go.bits .or .u64 a1 9223372036854775808)) else(some a1)
/-! ### fbits_Inf: function 34 -/
def CY.f (a0:Bool):Option (Int):=(DM.f a0 9218868437227405312).bind λANF=>(some ANF)
/-! ### fbits_Make: function 25 -/
mutual
def BA.j0 (k:Nat) (x0:Bool) (x1 x2:Int) (ux:Bool):Option (Int × Bool):=if ux=true then(some (0,false)) else((BF.f k x1).bind λAAy=>(if(mx (wrap64 ((wrap64 (x2+AAy))-53)) (-1074))>971 then(BA.j1 k x0 x1 (mx (wrap64 ((wrap64 (x2+AAy))-53)) (-1074)) (wrap64 ((mx (wrap64 ((wrap64 (x2+AAy))-53)) (-1074))-x2)) true) else(BA.j1 k x0 x1 (mx (wrap64 ((wrap64 (x2+AAy))-53)) (-1074)) (wrap64 ((mx (wrap64 ((wrap64 (x2+AAy))-53)) (-1074))-x2)) (decide ((wrap64 ((mx (wrap64 ((wrap64 (x2+AAy))-53)) (-1074))-x2))>=64)))))
def BA.j2 (k:Nat) (x0:Bool) (x1 x8:Int):Option (Int × Bool):=if x1<4503599627370496 then((DM.f x0 x1).bind λANG=>(some (ANG,true))) else((DM.f x0 (Go.bits .or .u64 (IntKind.u64.wrap ((IntKind.u64.wrap (wrap64 (x8+1075)))*4503599627370496)) (Go.bits .and .u64 x1 4503599627370495))).bind λANH=>(some (ANH,true)))
def BA.j1 (k:Nat) (x0:Bool) (x1 x8 x9:Int) (YW:Bool):Option (Int × Bool):=if YW=true then(some (0,false)) else(if x9>0 then(if 0<=x9 then(if(shl .u64 (shr .u64 x1 x9) x9)=x1 then(BA.j2 k x0 (shr .u64 x1 x9) x8) else(some (0,false))) else(none)) else(if 0<=(wrap64 (-x9)) then(BA.j2 k x0 (shl .u64 x1 (wrap64 (-x9))) x8) else(none)))
end
def BA.f (k:Nat) (a0:Bool) (a1 a2:Int):Option (Int × Bool):=if a1=0 then((DM.f a0 0).bind λANI=>(some (ANI,true))) else(if a2>2000 then(BA.j0 k a0 a1 a2 true) else(BA.j0 k a0 a1 a2 (decide (a2<(-2000)))))
/-! ### fround_made: function 92 -/
def Cg.f (k:Nat) (a0:Bool) (a1 a2:Int):Option (Int):=(BA.f k a0 a1 a2).bind λAGo=>(if AGo.2=true then(some AGo.1) else((CY.f a0).bind λANJ=>(some ANJ)))
/-! ### fround_even: function 93 -/
def Eo.f (a0:Int) (a1 a2:Bool):Option (Int):=if a1=true then(if a2=true then(some (IntKind.u64.wrap (a0+1))) else(if(Go.bits .and .u64 a0 1)=1 then(some (IntKind.u64.wrap (a0+1))) else(some a0))) else(some a0)
/-! ### fround_Word: function 36 -/
def Aw.f (k:Nat) (a0:Bool) (a1 a2:Int):Option (Int):=if a1=0 then((Cg.f k a0 0 0).bind λANK=>(some ANK)) else((BF.f k a1).bind λaC=>(if(mx (wrap64 ((wrap64 (aC+(mn (mx a2 (-1099511627776)) 1099511627776)))-53)) (-1074))>971 then((CY.f a0).bind λANL=>(some ANL)) else(if(wrap64 ((mx (wrap64 ((wrap64 (aC+(mn (mx a2 (-1099511627776)) 1099511627776)))-53)) (-1074))-(mn (mx a2 (-1099511627776)) 1099511627776)))<=0 then(if 0<=(wrap64 (-(wrap64 ((mx (wrap64 ((wrap64 (aC+(mn (mx a2 (-1099511627776)) 1099511627776)))-53)) (-1074))-(mn (mx a2 (-1099511627776)) 1099511627776))))) then((Cg.f k a0 (shl .u64 a1 (wrap64 (-(wrap64 ((mx (wrap64 ((wrap64 (aC+(mn (mx a2 (-1099511627776)) 1099511627776)))-53)) (-1074))-(mn (mx a2 (-1099511627776)) 1099511627776)))))) (mx (wrap64 ((wrap64 (aC+(mn (mx a2 (-1099511627776)) 1099511627776)))-53)) (-1074))).bind λANM=>(some ANM)) else(none)) else(if(wrap64 ((mx (wrap64 ((wrap64 (aC+(mn (mx a2 (-1099511627776)) 1099511627776)))-53)) (-1074))-(mn (mx a2 (-1099511627776)) 1099511627776)))>64 then((Cg.f k a0 0 0).bind λANN=>(some ANN)) else(if 0<=(wrap64 (64-(wrap64 ((mx (wrap64 ((wrap64 (aC+(mn (mx a2 (-1099511627776)) 1099511627776)))-53)) (-1074))-(mn (mx a2 (-1099511627776)) 1099511627776))))) then(if 0<=(wrap64 ((wrap64 ((mx (wrap64 ((wrap64 (aC+(mn (mx a2 (-1099511627776)) 1099511627776)))-53)) (-1074))-(mn (mx a2 (-1099511627776)) 1099511627776)))-1)) then((Eo.f (shr .u64 (a1/2) (wrap64 ((wrap64 ((mx (wrap64 ((wrap64 (aC+(mn (mx a2 (-1099511627776)) 1099511627776)))-53)) (-1074))-(mn (mx a2 (-1099511627776)) 1099511627776)))-1))) (((shl .u64 a1 (wrap64 (64-(wrap64 ((mx (wrap64 ((wrap64 (aC+(mn (mx a2 (-1099511627776)) 1099511627776)))-53)) (-1074))-(mn (mx a2 (-1099511627776)) 1099511627776))))))/9223372036854775808)==1) ((IntKind.u64.wrap ((shl .u64 a1 (wrap64 (64-(wrap64 ((mx (wrap64 ((wrap64 (aC+(mn (mx a2 (-1099511627776)) 1099511627776)))-53)) (-1074))-(mn (mx a2 (-1099511627776)) 1099511627776))))))*2)) !=0)).bind λANO=>((Cg.f k a0 ANO (mx (wrap64 ((wrap64 (aC+(mn (mx a2 (-1099511627776)) 1099511627776)))-53)) (-1074))).bind λANP=>(some ANP))) else(none)) else(none))))))
/-! ### fsum_odd: function 146 -/
def K3.f (a0 a1:Int):Option (Int):=if a1>63 then(some (mn a0 1)) else(if 0<=a1 then(if(shl .u64 (shr .u64 a0 a1) a1)=a0 then(some (shr .u64 a0 a1)) else(some (Go.bits .or .u64 (shr .u64 a0 a1) 1))) else(none))
/-! ### fsum_finite: function 104 -/
def DQ.j0 (k:Nat) (eo:Bool) (Rn Fg:Int) (tB:Bool) (ADj Hj:Int):Option (Int):=if 0<=(mn (wrap64 (Fg-Hj)) 10) then((K3.f ADj (wrap64 ((wrap64 (Fg-(mn (wrap64 (Fg-Hj)) 10)))-Hj))).bind λtC=>(if(eo==tB)=true then((Aw.f k eo (IntKind.u64.wrap ((IntKind.u64.wrap (Rn*2^(mn (wrap64 (Fg-Hj)) 10).toNat))+tC)) (wrap64 (Fg-(mn (wrap64 (Fg-Hj)) 10)))).bind λAKD=>(some AKD)) else(if(IntKind.u64.wrap (Rn*2^(mn (wrap64 (Fg-Hj)) 10).toNat))>tC then((Aw.f k eo (IntKind.u64.wrap ((IntKind.u64.wrap (Rn*2^(mn (wrap64 (Fg-Hj)) 10).toNat))-tC)) (wrap64 (Fg-(mn (wrap64 (Fg-Hj)) 10)))).bind λAKE=>(some AKE)) else(if(IntKind.u64.wrap (Rn*2^(mn (wrap64 (Fg-Hj)) 10).toNat))<tC then((Aw.f k tB (IntKind.u64.wrap (tC-(IntKind.u64.wrap (Rn*2^(mn (wrap64 (Fg-Hj)) 10).toNat)))) (wrap64 (Fg-(mn (wrap64 (Fg-Hj)) 10)))).bind λAKF=>(some AKF)) else(some 0))))) else(none)
def DQ.f (k:Nat) (ED:Bool) (F2 LW:Int) (D7:Bool) (DR El:Int):Option (Int):=if LW<El then(DQ.j0 k D7 DR El ED F2 LW) else(DQ.j0 k ED F2 LW D7 DR El)
/-! ### fbits_Neg: function 41 -/
def CX.f (a0:Int):Option (Bool):=some ((Go.bits .and .u64 a0 9223372036854775808) !=0)
/-! ### fbits_Parts: function 24 -/
def Ax.j0 (k:Nat) (x0 x6 Ik:Int) (Lr:Bool):Option (Bool × Int × Int × Bool):=if Lr=true then(some (false,0,0,false)) else(if Ik=2 then((CX.f x0).bind λANQ=>((DK.f x0).bind λANR=>(some (ANQ,Go.bits .or .u64 x6 4503599627370496,wrap64 (ANR-1075),true)))) else((CX.f x0).bind λANS=>(some (ANS,x6,(-1074),true))))
def Ax.f (k:Nat) (a0:Int):Option (Bool × Int × Int × Bool):=(A9.f a0).bind λADk=>(if ADk=3 then(Ax.j0 k a0 (Go.bits .and .u64 a0 4503599627370495) ADk (ADk==3)) else(Ax.j0 k a0 (Go.bits .and .u64 a0 4503599627370495) ADk (ADk==4)))
/-! ### fsum_of: function 105 -/
def M9.f (k:Nat) (a0:Int):Option (Bool × Int × Int):=(Ax.f k a0).bind λxA=>(some (xA.1,xA.2.1,xA.2.2.1))
/-! ### fsum_Add: function 55 -/
mutual
def BL.j0:Nat->Int->Int->Int->Int->Bool->Option (Int)
 | 0,_,_,_,_,_=>none
 | k+1,x0,x1,x5,x6,Lr=>if Lr=true then((B5.f).bind λAKG=>(some AKG)) else(if x5=3 then(if x6=3 then(BL.j1 k x0 x1 x5 x6 (x0 !=x1)) else(BL.j1 k x0 x1 x5 x6 false)) else(BL.j1 k x0 x1 x5 x6 false))
def BL.j1:Nat->Int->Int->Int->Int->Bool->Option (Int)
 | 0,_,_,_,_,_=>none
 | k+1,x0,x1,x5,x6,ux=>if ux=true then((B5.f).bind λAKH=>(some AKH)) else(if x5=3 then(some x0) else(if x6=3 then(some x1) else((M9.f k x0).bind λxB=>((M9.f k x1).bind λxC=>((DQ.f k xB.1 xB.2.1 xB.2.2 xC.1 xC.2.1 xC.2.2).bind λAKI=>(some AKI))))))
end
def BL.f (k:Nat) (a0 a1:Int):Option (Int):=(A9.f a0).bind λADl=>((A9.f a1).bind λADm=>(if ADl=4 then(BL.j0 k a0 a1 ADl ADm true) else(BL.j0 k a0 a1 ADl ADm (ADm==4))))
/-! ### fsum_Sub: function 57 -/
def Fa.f (k:Nat) (a0 a1:Int):Option (Int):=(EV.f a1).bind λAKJ=>((BL.f k a0 AKJ).bind λAKK=>(some AKK))
/-! ### fprod_Mul: function 66 -/
mutual
def Ag.j0:Nat->Int->Int->Int->Int->Bool->Bool->Option (Int)
 | 0,_,_,_,_,_,_=>none
 | k+1,x0,x1,x5,x6,x7,gy=>if gy=true then((B5.f).bind λAKL=>(some AKL)) else(if x5=3 then(Ag.j1 k x0 x1 x5 x6 x7 true) else(Ag.j1 k x0 x1 x5 x6 x7 (x6==3)))
def Ag.j1:Nat->Int->Int->Int->Int->Bool->Bool->Option (Int)
 | 0,_,_,_,_,_,_=>none
 | k+1,x0,x1,x5,x6,x7,x37=>if x37=true then(if x5=0 then(Ag.j2 k x7 true) else(Ag.j2 k x7 (x6==0))) else((Ax.f k x0).bind λoO=>((Ax.f k x1).bind λoP=>((DZ.f oO.2.1 oP.2.1).bind λVS=>((BF.f k VS.1).bind λUU=>(if UU=0 then((Aw.f k x7 VS.2 (wrap64 (oO.2.2.1+oP.2.2.1))).bind λAKM=>(some AKM)) else(if 0<=(wrap64 (64-UU)) then(if 0<=UU then(if(shl .u64 VS.2 (wrap64 (64-UU)))=0 then((Aw.f k x7 (Go.bits .or .u64 (shl .u64 VS.1 (wrap64 (64-UU))) (shr .u64 VS.2 UU)) (wrap64 ((wrap64 (oO.2.2.1+oP.2.2.1))+UU))).bind λAKN=>(some AKN)) else((Aw.f k x7 (Go.bits .or .u64 (Go.bits .or .u64 (shl .u64 VS.1 (wrap64 (64-UU))) (shr .u64 VS.2 UU)) 1) (wrap64 ((wrap64 (oO.2.2.1+oP.2.2.1))+UU))).bind λAKO=>(some AKO))) else(none)) else(none)))))))
def Ag.j2:Nat->Bool->Bool->Option (Int)
 | 0,_,_=>none
 | k+1,x7,x49=>if x49=true then((B5.f).bind λAKP=>(some AKP)) else((CY.f x7).bind λAKQ=>(some AKQ))
end
def Ag.f (k:Nat) (a0 a1:Int):Option (Int):=(A9.f a0).bind λADn=>((A9.f a1).bind λADo=>((CX.f a0).bind λAGp=>((CX.f a1).bind λAGq=>(if ADn=4 then(Ag.j0 k a0 a1 ADn ADo (!(AGp==AGq)) true) else(Ag.j0 k a0 a1 ADn ADo (!(AGp==AGq)) (ADo==4))))))
/-! ### fprod_signed: function 121 -/
def Fc.f (k:Nat) (a0:Bool):Option (Int):=(BA.f k a0 0 0).bind λAIU=>(some AIU.1)
/-! ### fprod_Div: function 68 -/
mutual
def BM.j0:Nat->Int->Int->Int->Int->Bool->Bool->Option (Int)
 | 0,_,_,_,_,_,_=>none
 | k+1,x0,x1,x5,x6,x7,s8=>if s8=true then((B5.f).bind λAKR=>(some AKR)) else(if x5=3 then(BM.j1 k x0 x1 x5 x6 x7 true) else(BM.j1 k x0 x1 x5 x6 x7 (x6==0)))
def BM.j1:Nat->Int->Int->Int->Int->Bool->Bool->Option (Int)
 | 0,_,_,_,_,_,_=>none
 | k+1,x0,x1,x5,x6,x7,x51=>if x51=true then((CY.f x7).bind λAKS=>(some AKS)) else(if x5=0 then((Fc.f k x7).bind λAKT=>(some AKT)) else(if x6=3 then((Fc.f k x7).bind λAKU=>(some AKU)) else((Ax.f k x0).bind λoQ=>((Ax.f k x1).bind λoR=>((BF.f k oQ.2.1).bind λzX=>((BF.f k oR.2.1).bind λzY=>(if 0<=(wrap64 (63-zX)) then(if 0<=(wrap64 (64-zY)) then((Hh.f k (shl .u64 oQ.2.1 (wrap64 (63-zX))) 0 (shl .u64 oR.2.1 (wrap64 (64-zY)))).bind λxD=>(if xD.2.1=0 then((Aw.f k x7 xD.1 (wrap64 ((wrap64 ((wrap64 ((wrap64 (oQ.2.2.1-(wrap64 (63-zX))))-oR.2.2.1))+(wrap64 (64-zY))))-64))).bind λAKV=>(some AKV)) else((Aw.f k x7 (Go.bits .or .u64 xD.1 1) (wrap64 ((wrap64 ((wrap64 ((wrap64 (oQ.2.2.1-(wrap64 (63-zX))))-oR.2.2.1))+(wrap64 (64-zY))))-64))).bind λAKW=>(some AKW)))) else(none)) else(none))))))))
end
def BM.f (k:Nat) (a0 a1:Int):Option (Int):=(A9.f a0).bind λW4=>((A9.f a1).bind λep=>((CX.f a0).bind λtD=>((CX.f a1).bind λtE=>(if W4=4 then(BM.j0 k a0 a1 W4 ep (!(tD==tE)) true) else(if ep=4 then(BM.j0 k a0 a1 W4 ep (!(tD==tE)) true) else(if W4=ep then(if W4=3 then(BM.j0 k a0 a1 W4 ep (!(tD==tE)) true) else(BM.j0 k a0 a1 W4 ep (!(tD==tE)) (W4==0))) else(BM.j0 k a0 a1 W4 ep (!(tD==tE)) false)))))))
/-! ### fprod_root: function 219 -/
def CC.l0:Nat->Int->Int->Int->Option (Int × Bool)
 | 0,_,_,_=>none
 | k+1,x0,x4,x5=>if x5>0 then((DZ.f (Go.bits .or .u64 x4 x5) (Go.bits .or .u64 x4 x5)).bind λxE=>(if xE.1<x0 then(CC.l0 k x0 (Go.bits .or .u64 x4 x5) (x5/2)) else(if xE.1=x0 then(if xE.2=0 then(CC.l0 k x0 (Go.bits .or .u64 x4 x5) (x5/2)) else(CC.l0 k x0 x4 (x5/2))) else(CC.l0 k x0 x4 (x5/2))))) else((DZ.f x4 x4).bind λADp=>(if ADp.1=x0 then(some (x4,(ADp.2==0))) else(some (x4,false))))
def CC.f (k:Nat) (a0:Int):Option (Int × Bool):=CC.l0 k a0 0 9223372036854775808
/-! ### fprod_Sqrt: function 149 -/
def B4.j0:Nat->Int->Int->Int->Option (Int)
 | 0,_,_,_=>none
 | k+1,x4,x5,x7=>if 0<=(wrap64 (x7-64)) then((CC.f k (shl .u64 x4 (wrap64 (x7-64)))).bind λxF=>(if xF.2=true then((Aw.f k false xF.1 (wrap64 (Int.tdiv (wrap64 (x5-x7)) 2))).bind λAKX=>(some AKX)) else((Aw.f k false (Go.bits .or .u64 xF.1 1) (wrap64 (Int.tdiv (wrap64 (x5-x7)) 2))).bind λAKY=>(some AKY)))) else(none)
def B4.f (k:Nat) (a0:Int):Option (Int):=(A9.f a0).bind λADq=>(if ADq=4 then((B5.f).bind λAKZ=>(some AKZ)) else(if ADq=3 then((CX.f a0).bind λAKa=>(if AKa=true then((B5.f).bind λAKb=>(some AKb)) else(some a0))) else(if ADq=0 then(some a0) else((CX.f a0).bind λAKc=>(if AKc=true then((B5.f).bind λAKd=>(some AKd)) else((Ax.f k a0).bind λYX=>((BF.f k YX.2.1).bind λADr=>(if(Go.bits .and .i64 (wrap64 (YX.2.2.1-(wrap64 (126-ADr)))) 1)=0 then(B4.j0 k YX.2.1 YX.2.2.1 (wrap64 (126-ADr))) else(B4.j0 k YX.2.1 YX.2.2.1 (wrap64 ((wrap64 (126-ADr))-1)))))))))))
/-! ### fcmp_known: function 98 -/
def Hf.f (a0 a1:Int):Option (Bool):=(A9.f a0).bind λAKe=>(if AKe=4 then(some false) else((A9.f a1).bind λAKf=>(some (AKf !=4))))
/-! ### fcmp_key: function 99 -/
def Je.f (a0:Int):Option (Int):=(CX.f a0).bind λADg=>(if ADg=true then(some (wrap64 (-(wrap64 ((IntKind.u64.wrap (a0*2))/2))))) else(some (wrap64 ((IntKind.u64.wrap (a0*2))/2))))
/-! ### fcmp_Less: function 48 -/
def EL.f (a0 a1:Int):Option (Bool):=(Hf.f a0 a1).bind λAKg=>(if AKg=true then((Je.f a0).bind λAKh=>((Je.f a1).bind λADh=>(some (decide (AKh<ADh))))) else(some false))
/-! ### fcmp_Near: function 51 -/
mutual
def B6.j0:Nat->Bool->Int->Int->Bool->Option (Int × Bool)
 | 0,_,_,_,_=>none
 | k+1,x4,x5,x6,zU=>if zU=true then(some (0,false)) else(if x6>=0 then(if 0<=x6 then(if x4=true then(some (wrap64 (-(wrap64 (shl .u64 x5 x6))),true)) else(some (wrap64 (shl .u64 x5 x6),true))) else(none)) else(if x6>(-64) then(if 0<=(wrap64 (-x6)) then(if 0<=(wrap64 (64+x6)) then(if(shl .u64 x5 (wrap64 (64+x6)))>9223372036854775808 then(B6.j1 k x4 (wrap64 (shr .u64 x5 (wrap64 (-x6)))) true) else(if(shl .u64 x5 (wrap64 (64+x6)))=9223372036854775808 then(B6.j1 k x4 (wrap64 (shr .u64 x5 (wrap64 (-x6)))) ((Go.bits .and .i64 (wrap64 (shr .u64 x5 (wrap64 (-x6)))) 1)==1)) else(B6.j1 k x4 (wrap64 (shr .u64 x5 (wrap64 (-x6)))) false))) else(none)) else(none)) else(if x4=true then(some (-0,true)) else(some (0,true)))))
def B6.j1:Nat->Bool->Int->Bool->Option (Int × Bool)
 | 0,_,_,_=>none
 | k+1,x4,x8,x55=>if x55=true then(if x4=true then(some (wrap64 (-(wrap64 (x8+1))),true)) else(some (wrap64 (x8+1),true))) else(if x4=true then(some (wrap64 (-x8),true)) else(some (x8,true)))
end
def B6.f (k:Nat) (a0:Int):Option (Int × Bool):=(Ax.f k a0).bind λPk=>(if Pk.2.2.2=true then((BF.f k Pk.2.1).bind λAKi=>(B6.j0 k Pk.1 Pk.2.1 Pk.2.2.1 (decide ((wrap64 (AKi+Pk.2.2.1))>62)))) else(B6.j0 k Pk.1 Pk.2.1 Pk.2.2.1 true))
/-! ### fbits_Clean: function 43 -/
def Di.f (a0:Int):Option (Int):=(A9.f a0).bind λAKj=>(if AKj=4 then((B5.f).bind λAKk=>(some AKk)) else(some a0))
/-! ### fcmp_Scale: function 53 -/
def JE.f (k:Nat) (a0 a1:Int):Option (Int):=(Ax.f k a0).bind λoT=>(if oT.2.2.2=true then((Aw.f k oT.1 oT.2.1 (wrap64 (oT.2.2.1+(mn (mx a1 (-5000)) 5000)))).bind λAKl=>(some AKl)) else((Di.f a0).bind λAKm=>(some AKm)))
/-! ### fround_FromInt: function 64 -/
def Cr.f (k:Nat) (a0:Int):Option (Int):=if a0<0 then((Aw.f k true (IntKind.u64.wrap (-(IntKind.u64.wrap (a0)))) 0).bind λANT=>(some ANT)) else((Aw.f k false (IntKind.u64.wrap (a0)) 0).bind λANU=>(some ANU))
/-! ### kernel_part: function 126 -/
def EC.f (k:Nat) (a0:Int):Option (Int):=(Cr.f k a0).bind λAKn=>((BM.f k 4607182418800017408 AKn).bind λAKo=>(some AKo))
/-! ### kernel_Exp: function by hand -/
def BR.l1:Nat->Int->Int->List Int->Int->Int->Option (Int)
 | 0,_,_,_,_,_=>none
 | k+1,e,r,fs,p,i=>if i>=0 then((Ag.f k p r).bind λt=>(if 0<=i then(if i<14 then(if i<(fs.length:Int) then((EC.f k (rd fs i)).bind λu=>((BL.f k t u).bind λv=>(BR.l1 k e r fs v (wrap64 (i-1))))) else none) else none) else none)) else((JE.f k p e).bind λs=>(some s))
def BR.l0:Nat->Int->Int->List Int->Int->Option (Int)
 | 0,_,_,_,_=>none
 | k+1,e,r,fs,i=>if i<13 then(if 0<=(wrap64 (i+1)) then(if(wrap64 (i+1))<14 then(if(wrap64 (i+1))<(fs.length:Int) then(if 0<=i then(if i<14 then(if i<(fs.length:Int) then(BR.l0 k e r (fs.set ((wrap64 (i+1)):Int).toNat (wrap64 ((rd fs i)*(wrap64 (i+1))))) (wrap64 (i+1))) else none) else none) else none) else none) else none) else none) else(if(13:Int)<(fs.length:Int) then((EC.f k (rd fs 13)).bind λp=>(BR.l1 k e r fs p 12)) else none)
def BR.f (k:Nat) (a0:Int):Option (Int):=(A9.f a0).bind λt0=>(if t0=4 then((B5.f).bind λt=>(some t)) else((EL.f 4649456441864749056 a0).bind λt1=>(if t1=true then((CY.f false).bind λt=>(some t)) else((EL.f a0 13873145138068324352).bind λt2=>(if t2=true then(some 0) else((Ag.f k a0 4609176140021203710).bind λt3=>((B6.f k t3).bind λCa=>((Cr.f k Ca.1).bind λt5=>((Ag.f k t5 4604418534311723008).bind λt6=>((Fa.f k a0 t6).bind λt7=>((Ag.f k t5 4461442080421002358).bind λt8=>((Fa.f k t7 t8).bind λt9=>(BR.l0 k Ca.1 t9 [1,0,0,0,0,0,0,0,0,0,0,0,0,0] 0)))))))))))))
/-! ### kernel_split: function 129 -/
def Gl.f (k:Nat) (a0:Int):Option (Int × Int):=(Ax.f k a0).bind λeu=>((BF.f k eu.2.1).bind λzZ=>((BA.f k false eu.2.1 (wrap64 (1-zZ))).bind λADs=>((EL.f 4609047870845172685 ADs.1).bind λAKp=>(if AKp=true then((BA.f k false eu.2.1 (wrap64 (-zZ))).bind λAIV=>(some (AIV.1,wrap64 (eu.2.2.1+zZ)))) else(some (ADs.1,wrap64 ((wrap64 (eu.2.2.1+zZ))-1)))))))
/-! ### kernel_Log: function 75 -/
mutual
def BX.j0:Nat->Int->Int->Bool->Option (Int)
 | 0,_,_,_=>none
 | k+1,x0,x3,ZA=>if ZA=true then((B5.f).bind λAKq=>(some AKq)) else(if x3=3 then(some x0) else((Gl.f k x0).bind λADt=>((Fa.f k ADt.1 4607182418800017408).bind λAGr=>((BL.f k 4611686018427387904 AGr).bind λAKr=>((BM.f k AGr AKr).bind λADu=>((Ag.f k ADu ADu).bind λAKs=>((EC.f k 21).bind λAKt=>(BX.l0 k ADt.2 ADu AKs AKt 9))))))))
def BX.l0:Nat->Int->Int->Int->Int->Int->Option (Int)
 | 0,_,_,_,_,_=>none
 | k+1,x5,x7,x8,x9,Ik=>if Ik>0 then((Ag.f k x9 x8).bind λAKu=>((EC.f k (wrap64 ((wrap64 (2*Ik))+1))).bind λAKv=>((BL.f k AKu AKv).bind λAKw=>(BX.l0 k x5 x7 x8 AKw (wrap64 (Ik-1)))))) else((BL.f k x7 x7).bind λAGs=>((Ag.f k x9 x8).bind λAKx=>((Ag.f k AGs AKx).bind λAKy=>((BL.f k AGs AKy).bind λAGt=>(if x5=0 then(some AGt) else((Cr.f k x5).bind λAGu=>((Ag.f k AGu 4604418534311723008).bind λAKz=>((Ag.f k AGu 4461442080421002358).bind λAK0=>((BL.f k AGt AK0).bind λAK1=>((BL.f k AKz AK1).bind λAK2=>(some AK2)))))))))))
end
def BX.f (k:Nat) (a0:Int):Option (Int):=(A9.f a0).bind λzf=>(if zf=0 then((CY.f true).bind λAK3=>(some AK3)) else(if zf=4 then(BX.j0 k a0 zf true) else((CX.f a0).bind λAK4=>(BX.j0 k a0 zf AK4))))
/-! ### bank_double: function by hand -/
def Hg.f (k:Nat) (a0 a1 a2:Int):Option (Int):=if a0=3 then((EV.f a1).bind λt1=>(some t1)) else(if a0=4 then((BL.f k a1 a2).bind λt2=>(some t2)) else(if a0=5 then((Fa.f k a1 a2).bind λt3=>(some t3)) else(if a0=6 then((Ag.f k a1 a2).bind λt4=>(some t4)) else(if a0=7 then((BM.f k a1 a2).bind λt5=>(some t5)) else(if a0=8 then((B4.f k a1).bind λt6=>(some t6)) else(if a0=9 then((BR.f k a1).bind λt7=>(some t7)) else((BX.f k a1).bind λt8=>(some t8))))))))
/-! ### bank_Bank_do: function by hand -/
mutual
def AM.zT:Nat->Bool->List Int->List Int->Int->Int->Bool->List Int->List Int->Int->Int->Int->Int->(List (Int × Int × Int × Bool × (List Int) × List Int))->List Bool->List Bool->Int->Int->Bool->Int->Option (Bool × List Int × List Int × Int × Int × Int × Int × List (Int × Int × Int × Bool × (List Int) × List Int) × List Bool × List Bool × Int × Int × Bool × Int)
 | 0,_,_,_,_,_,_,_,_,_,_,_,_,_,_,_,_,_,_,_=>none
 | k+1,Ro,Rp,Rs,Rt,Ru,Rv,Rw,Rx,Ry,Rz,Oa,Ob,Oc,Od,Oe,Of,Og,Oh,NG=>if NG=0 then(some (Rv,Rw,Rx,Ry,Rz,Oa,Ob,Oc,Od,Oe,Of,Og,Oh,NG)) else(some (false,([]:List Int),([]:List Int),0,0,Oa,Ob,Oc,Od,Oe,Of,(wrap64 (Og-1)),Oh,NG))
def AM.j7:Nat->Int->Bool->Bool->List Int->List Int->Int->Int->Bool->List Int->List Int->Int->Int->Bool->List Int->List Int->Int->Int->Bool->List Int->List Int->Int->Int->Int->Int->(List (Int × Int × Int × Bool × (List Int) × List Int))->List Bool->List Bool->Int->Int->Bool->Int->Option (Bool × List Int × List Int × Int × Int × Int × Int × List (Int × Int × Int × Bool × (List Int) × List Int) × List Bool × List Bool × Int × Int × Bool × Int)
 | 0,_,_,_,_,_,_,_,_,_,_,_,_,_,_,_,_,_,_,_,_,_,_,_,_,_,_,_,_,_,_,_=>none
 | k+1,x1,x4,Gn,JG,AK5,AK6,AFp,Ie,OZ,AK7,AK8,AIW,Ro,Rp,Rs,Rt,Ru,Rv,Rw,Rx,Ry,Rz,Oa,Ob,Oc,Od,Oe,Of,Og,Oh,NG=>if x4=true then(AM.qG k Ro Rp Rs Rt Ru Rv Rw Rx Ry Rz x1 AFp AIW false [] [] Oa Ob Oc Od Oe Of Og Oh NG) else(AM.qG k Ro Rp Rs Rt Ru Rv Rw Rx Ry Rz x1 AFp 0 false [] [] Oa Ob Oc Od Oe Of Og Oh NG)
def AM.qG:Nat->Bool->List Int->List Int->Int->Int->Bool->List Int->List Int->Int->Int->Int->Int->Int->Bool->List Int->List Int->Int->Int->(List (Int × Int × Int × Bool × (List Int) × List Int))->List Bool->List Bool->Int->Int->Bool->Int->Option (Bool × List Int × List Int × Int × Int × Int × Int × List (Int × Int × Int × Bool × (List Int) × List Int) × List Bool × List Bool × Int × Int × Bool × Int)
 | 0,_,_,_,_,_,_,_,_,_,_,_,_,_,_,_,_,_,_,_,_,_,_,_,_,_=>none
 | k+1,Ro,Rp,Rs,Rt,Ru,Rv,Rw,Rx,Ry,Rz,ez,e8,e9,ADv,ADw,ADx,Oa,Ob,Oc,Od,Oe,Of,Og,Oh,NG=>(Br.f k Oa Ob Oc Od Oe Of Og Oh NG ez e8 e9 ADv ADw ADx).bind λFD=>(AM.zT k Ro Rp Rs Rt Ru FD.1 FD.2.1 FD.2.2.1 FD.2.2.2.1 FD.2.2.2.2.1 FD.2.2.2.2.2.1 FD.2.2.2.2.2.2.1 FD.2.2.2.2.2.2.2.1 FD.2.2.2.2.2.2.2.2.1 FD.2.2.2.2.2.2.2.2.2.1 FD.2.2.2.2.2.2.2.2.2.2.1 FD.2.2.2.2.2.2.2.2.2.2.2.1 FD.2.2.2.2.2.2.2.2.2.2.2.2.1 FD.2.2.2.2.2.2.2.2.2.2.2.2.2)
end
def AM.f (k:Nat) (AX Al:Int) (Am:List (Int × Int × Int × Bool × (List Int) × List Int)) (Ao BD:List Bool) (BB BH:Int) (BJ:Bool) (BE a1:Int) (F1:Bool) (HD II:List Int) (Jf K6:Int) (Wy:Bool) (Wz W0:List Int) (oU tF:Int) (a4:Bool):Option (Bool × List Int × List Int × Int × Int × Int × Int × List (Int × Int × Int × Bool × (List Int) × List Int) × List Bool × List Bool × Int × Int × Bool × Int):=(BV.f k AX Al Am Ao BD BB BH BJ BE).bind λAT=>(if AT.1=true then(some (false,([]:List Int),([]:List Int),0,0,AT.2.1,AT.2.2.1,AT.2.2.2.1,AT.2.2.2.2.1,AT.2.2.2.2.2.1,AT.2.2.2.2.2.2.1,AT.2.2.2.2.2.2.2.1,AT.2.2.2.2.2.2.2.2.1,AT.2.2.2.2.2.2.2.2.2)) else(if AT.2.1=0 then((Dk.f k AT.2.1 AT.2.2.1 AT.2.2.2.1 AT.2.2.2.2.1 AT.2.2.2.2.2.1 AT.2.2.2.2.2.2.1 (wrap64 (AT.2.2.2.2.2.2.2.1+1)) AT.2.2.2.2.2.2.2.2.1 AT.2.2.2.2.2.2.2.2.2 a1 F1 HD II Wy Wz W0).bind λCj=>(AM.zT k false [] [] 0 0 Cj.1 Cj.2.1 Cj.2.2.1 0 0 Cj.2.2.2.1 Cj.2.2.2.2.1 Cj.2.2.2.2.2.1 Cj.2.2.2.2.2.2.1 Cj.2.2.2.2.2.2.2.1 Cj.2.2.2.2.2.2.2.2.1 Cj.2.2.2.2.2.2.2.2.2.1 Cj.2.2.2.2.2.2.2.2.2.2.1 Cj.2.2.2.2.2.2.2.2.2.2.2)) else(if AT.2.1=1 then((Hg.f k a1 Jf oU).bind λt3=>(AM.zT k false [] [] 0 0 false ([]:List Int) ([]:List Int) t3 0 AT.2.1 AT.2.2.1 AT.2.2.2.1 AT.2.2.2.2.1 AT.2.2.2.2.2.1 AT.2.2.2.2.2.2.1 (wrap64 (AT.2.2.2.2.2.2.2.1+1)) AT.2.2.2.2.2.2.2.2.1 AT.2.2.2.2.2.2.2.2.2)) else((CL.f k AT.2.1 AT.2.2.1 AT.2.2.2.1 AT.2.2.2.2.1 AT.2.2.2.2.2.1 AT.2.2.2.2.2.2.1 (wrap64 (AT.2.2.2.2.2.2.2.1+1)) AT.2.2.2.2.2.2.2.2.1 AT.2.2.2.2.2.2.2.2.2 F1 HD II Jf K6).bind λCa=>(if Ca.1=true then(if a4=true then((CL.f k Ca.2.1 Ca.2.2.1 Ca.2.2.2.1 Ca.2.2.2.2.1 Ca.2.2.2.2.2.1 Ca.2.2.2.2.2.2.1 Ca.2.2.2.2.2.2.2.1 Ca.2.2.2.2.2.2.2.2.1 Ca.2.2.2.2.2.2.2.2.2 Wy Wz W0 oU tF).bind λHQ=>(if HQ.1=true then(AM.j7 k a1 a4 F1 HD II Jf K6 Wy Wz W0 oU tF false [] [] 0 0 false [] [] 0 0 HQ.2.1 HQ.2.2.1 HQ.2.2.2.1 HQ.2.2.2.2.1 HQ.2.2.2.2.2.1 HQ.2.2.2.2.2.2.1 HQ.2.2.2.2.2.2.2.1 HQ.2.2.2.2.2.2.2.2.1 HQ.2.2.2.2.2.2.2.2.2) else(AM.zT k false [] [] 0 0 false ([]:List Int) ([]:List Int) 0 0 HQ.2.1 HQ.2.2.1 HQ.2.2.2.1 HQ.2.2.2.2.1 HQ.2.2.2.2.2.1 HQ.2.2.2.2.2.2.1 HQ.2.2.2.2.2.2.2.1 HQ.2.2.2.2.2.2.2.2.1 HQ.2.2.2.2.2.2.2.2.2))) else(AM.j7 k a1 a4 F1 HD II Jf K6 Wy Wz W0 oU tF false [] [] 0 0 false [] [] 0 0 Ca.2.1 Ca.2.2.1 Ca.2.2.2.1 Ca.2.2.2.2.1 Ca.2.2.2.2.2.1 Ca.2.2.2.2.2.2.1 Ca.2.2.2.2.2.2.2.1 Ca.2.2.2.2.2.2.2.2.1 Ca.2.2.2.2.2.2.2.2.2)) else(AM.zT k false [] [] 0 0 false ([]:List Int) ([]:List Int) 0 0 Ca.2.1 Ca.2.2.1 Ca.2.2.2.1 Ca.2.2.2.2.1 Ca.2.2.2.2.2.1 Ca.2.2.2.2.2.2.1 Ca.2.2.2.2.2.2.2.1 Ca.2.2.2.2.2.2.2.2.1 Ca.2.2.2.2.2.2.2.2.2))))))
/-! ### bank_Bank_Add: function by hand -/
def D5.f (k:Nat) (AX Al:Int) (Am:List (Int × Int × Int × Bool × (List Int) × List Int)) (Ao BD:List Bool) (BB BH:Int) (BJ:Bool) (BE:Int) (D7:Bool) (DR El:List Int) (LU LV:Int) (F1:Bool) (HD II:List Int) (Jf K6:Int):Option (Bool × List Int × List Int × Int × Int × Int × Int × List (Int × Int × Int × Bool × (List Int) × List Int) × List Bool × List Bool × Int × Int × Bool × Int):=(AM.f k AX Al Am Ao BD BB BH BJ BE 4 D7 DR El LU LV F1 HD II Jf K6 true).bind λAT=>(some (AT.1,AT.2.1,AT.2.2.1,AT.2.2.2.1,AT.2.2.2.2.1,AT.2.2.2.2.2.1,AT.2.2.2.2.2.2.1,AT.2.2.2.2.2.2.2.1,AT.2.2.2.2.2.2.2.2.1,AT.2.2.2.2.2.2.2.2.2.1,AT.2.2.2.2.2.2.2.2.2.2.1,AT.2.2.2.2.2.2.2.2.2.2.2.1,AT.2.2.2.2.2.2.2.2.2.2.2.2.1,AT.2.2.2.2.2.2.2.2.2.2.2.2.2))
/-! ### bank_Bank_Div: function by hand -/
def G2.f (k:Nat) (AX Al:Int) (Am:List (Int × Int × Int × Bool × (List Int) × List Int)) (Ao BD:List Bool) (BB BH:Int) (BJ:Bool) (BE:Int) (D7:Bool) (DR El:List Int) (LU LV:Int) (F1:Bool) (HD II:List Int) (Jf K6:Int):Option (Bool × List Int × List Int × Int × Int × Int × Int × List (Int × Int × Int × Bool × (List Int) × List Int) × List Bool × List Bool × Int × Int × Bool × Int):=(AM.f k AX Al Am Ao BD BB BH BJ BE 7 D7 DR El LU LV F1 HD II Jf K6 true).bind λAT=>(some (AT.1,AT.2.1,AT.2.2.1,AT.2.2.2.1,AT.2.2.2.2.1,AT.2.2.2.2.2.1,AT.2.2.2.2.2.2.1,AT.2.2.2.2.2.2.2.1,AT.2.2.2.2.2.2.2.2.1,AT.2.2.2.2.2.2.2.2.2.1,AT.2.2.2.2.2.2.2.2.2.2.1,AT.2.2.2.2.2.2.2.2.2.2.2.1,AT.2.2.2.2.2.2.2.2.2.2.2.2.1,AT.2.2.2.2.2.2.2.2.2.2.2.2.2))
/-! ### bank_Bank_Err: function by hand -/
def Ep.f (k:Nat) (AX Al:Int) (Am:List (Int × Int × Int × Bool × (List Int) × List Int)) (Ao BD:List Bool) (BB BH:Int) (BJ:Bool) (BE:Int):Option (Int × Int × Int × List (Int × Int × Int × Bool × (List Int) × List Int) × List Bool × List Bool × Int × Int × Bool × Int):=some (BE,AX,Al,Am,Ao,BD,BB,BH,BJ,BE)
/-! ### bank_Bank_Exp: function by hand -/
def G3.f (k:Nat) (AX Al:Int) (Am:List (Int × Int × Int × Bool × (List Int) × List Int)) (Ao BD:List Bool) (BB BH:Int) (BJ:Bool) (BE:Int) (D7:Bool) (DR El:List Int) (LU LV:Int):Option (Bool × List Int × List Int × Int × Int × Int × Int × List (Int × Int × Int × Bool × (List Int) × List Int) × List Bool × List Bool × Int × Int × Bool × Int):=(AM.f k AX Al Am Ao BD BB BH BJ BE 9 D7 DR El LU LV false ([]:List Int) ([]:List Int) 0 0 false).bind λAT=>(some (AT.1,AT.2.1,AT.2.2.1,AT.2.2.2.1,AT.2.2.2.2.1,AT.2.2.2.2.2.1,AT.2.2.2.2.2.2.1,AT.2.2.2.2.2.2.2.1,AT.2.2.2.2.2.2.2.2.1,AT.2.2.2.2.2.2.2.2.2.1,AT.2.2.2.2.2.2.2.2.2.2.1,AT.2.2.2.2.2.2.2.2.2.2.2.1,AT.2.2.2.2.2.2.2.2.2.2.2.2.1,AT.2.2.2.2.2.2.2.2.2.2.2.2.2))
/-! ### rat_Sign: function 132 -/
def HZ.f (k:Nat) (ED:Bool) (GL GR:List Int):Option (Int):=(Cd.f k GL).bind λANV=>(if ANV=0 then(some 0) else(if ED=true then(some (-1)) else(some 1)))
/-! ### rat_Cmp: function 120 -/
def Pa.f (k:Nat) (ED:Bool) (GL GR:List Int) (D7:Bool) (Wx VR:List Int):Option (Int):=(I0.f k ED GL GR D7 Wx VR).bind λxG=>((HZ.f k xG.1 xG.2.1 xG.2.2).bind λAK9=>(some AK9))
/-! ### bank_Bank_answer: function by hand -/
def Dv.f (k:Nat) (AX Al:Int) (Am:List (Int × Int × Int × Bool × (List Int) × List Int)) (Ao BD:List Bool) (BB BH:Int) (BJ:Bool) (BE:Int):Option (Bool × Int × Int × List (Int × Int × Int × Bool × (List Int) × List Int) × List Bool × List Bool × Int × Int × Bool × Int):=if BB>=(Ao.length:Int) then((A8.f k AX Al Am Ao BD BB BH BJ BE 20).bind λAT=>(some (false,AT.1,AT.2.1,AT.2.2.1,AT.2.2.2.1,AT.2.2.2.2.1,AT.2.2.2.2.2.1,AT.2.2.2.2.2.2.1,AT.2.2.2.2.2.2.2.1,AT.2.2.2.2.2.2.2.2))) else(if 0<=(wrap64 ((wrap64 (BB+1))-1)) then(if(wrap64 ((wrap64 (BB+1))-1))<(Ao.length:Int) then(some ((ANW Ao (wrap64 ((wrap64 (BB+1))-1))),AX,Al,Am,Ao,BD,(wrap64 (BB+1)),BH,BJ,BE)) else none) else none)
/-! ### bank_Bank_Less: function by hand -/
mutual
def Af.j18:Nat->Bool->Int->Int->(List (Int × Int × Int × Bool × (List Int) × List Int))->List Bool->List Bool->Int->Int->Bool->Int->Option (Bool × Int × Int × List (Int × Int × Int × Bool × (List Int) × List Int) × List Bool × List Bool × Int × Int × Bool × Int)
 | 0,_,_,_,_,_,_,_,_,_,_=>none
 | k+1,x7,ZB,ZC,ZD,ZE,W5,ZF,ZG,ZH,W6=>if W6=0 then(if(W5.length+1)*1<=140737488355328 then(some (x7,ZB,ZC,ZD,ZE,(W5++ [x7]),ZF,ZG,ZH,W6)) else none) else(some (false,ZB,ZC,ZD,ZE,W5,ZF,ZG,ZH,W6))
def Af.j9:Nat->Int->Int->(List (Int × Int × Int × Bool × (List Int) × List Int))->List Bool->List Bool->Int->Int->Bool->Int->Option (Bool × Int × Int × List (Int × Int × Int × Bool × (List Int) × List Int) × List Bool × List Bool × Int × Int × Bool × Int)
 | 0,_,_,_,_,_,_,_,_,_=>none
 | k+1,ZB,ZC,ZD,ZE,W5,ZF,ZG,ZH,W6=>some (false,ZB,ZC,ZD,ZE,W5,ZF,ZG,ZH,W6)
end
def Af.f (k:Nat) (AX Al:Int) (Am:List (Int × Int × Int × Bool × (List Int) × List Int)) (Ao BD:List Bool) (BB BH:Int) (BJ:Bool) (BE:Int) (D7:Bool) (DR El:List Int) (LU LV:Int) (F1:Bool) (HD II:List Int) (Jf K6:Int):Option (Bool × Int × Int × List (Int × Int × Int × Bool × (List Int) × List Int) × List Bool × List Bool × Int × Int × Bool × Int):=(BV.f k AX Al Am Ao BD BB BH BJ BE).bind λAT=>(if AT.1=true then(some (false,AT.2.1,AT.2.2.1,AT.2.2.2.1,AT.2.2.2.2.1,AT.2.2.2.2.2.1,AT.2.2.2.2.2.2.1,AT.2.2.2.2.2.2.2.1,AT.2.2.2.2.2.2.2.2.1,AT.2.2.2.2.2.2.2.2.2)) else(if(AT.2.2.2.2.2.1.length:Int)>=65536 then((A8.f k AT.2.1 AT.2.2.1 AT.2.2.2.1 AT.2.2.2.2.1 AT.2.2.2.2.2.1 AT.2.2.2.2.2.2.1 AT.2.2.2.2.2.2.2.1 AT.2.2.2.2.2.2.2.2.1 AT.2.2.2.2.2.2.2.2.2 13).bind λCj=>(some (false,Cj.1,Cj.2.1,Cj.2.2.1,Cj.2.2.2.1,Cj.2.2.2.2.1,Cj.2.2.2.2.2.1,Cj.2.2.2.2.2.2.1,Cj.2.2.2.2.2.2.2.1,Cj.2.2.2.2.2.2.2.2))) else(if AT.2.1=0 then((Pa.f k D7 DR El F1 HD II).bind λt3=>(if AT.2.2.2.2.2.2.2.2.1=true then(Af.j18 k (decide (t3<0)) AT.2.1 AT.2.2.1 AT.2.2.2.1 AT.2.2.2.2.1 AT.2.2.2.2.2.1 AT.2.2.2.2.2.2.1 AT.2.2.2.2.2.2.2.1 true AT.2.2.2.2.2.2.2.2.2) else(Af.j18 k (decide (t3<0)) AT.2.1 AT.2.2.1 AT.2.2.2.1 AT.2.2.2.2.1 AT.2.2.2.2.2.1 AT.2.2.2.2.2.2.1 AT.2.2.2.2.2.2.2.1 (t3==0) AT.2.2.2.2.2.2.2.2.2))) else(if AT.2.1=1 then((EL.f LU Jf).bind λt4=>(if AT.2.2.2.2.2.2.2.2.1=true then(Af.j18 k t4 AT.2.1 AT.2.2.1 AT.2.2.2.1 AT.2.2.2.2.1 AT.2.2.2.2.2.1 AT.2.2.2.2.2.2.1 AT.2.2.2.2.2.2.2.1 true AT.2.2.2.2.2.2.2.2.2) else(if t4=true then(Af.j18 k t4 AT.2.1 AT.2.2.1 AT.2.2.2.1 AT.2.2.2.2.1 AT.2.2.2.2.2.1 AT.2.2.2.2.2.2.1 AT.2.2.2.2.2.2.2.1 false AT.2.2.2.2.2.2.2.2.2) else((EL.f Jf LU).bind λt5=>(Af.j18 k t4 AT.2.1 AT.2.2.1 AT.2.2.2.1 AT.2.2.2.2.1 AT.2.2.2.2.2.1 AT.2.2.2.2.2.2.1 AT.2.2.2.2.2.2.2.1 (!t5) AT.2.2.2.2.2.2.2.2.2))))) else((CL.f k AT.2.1 AT.2.2.1 AT.2.2.2.1 AT.2.2.2.2.1 AT.2.2.2.2.2.1 AT.2.2.2.2.2.2.1 AT.2.2.2.2.2.2.2.1 AT.2.2.2.2.2.2.2.2.1 AT.2.2.2.2.2.2.2.2.2 D7 DR El LU LV).bind λFD=>(if FD.1=true then((CL.f k FD.2.1 FD.2.2.1 FD.2.2.2.1 FD.2.2.2.2.1 FD.2.2.2.2.2.1 FD.2.2.2.2.2.2.1 FD.2.2.2.2.2.2.2.1 FD.2.2.2.2.2.2.2.2.1 FD.2.2.2.2.2.2.2.2.2 F1 HD II Jf K6).bind λJH=>(if JH.1=true then((Dv.f k JH.2.1 JH.2.2.1 JH.2.2.2.1 JH.2.2.2.2.1 JH.2.2.2.2.2.1 JH.2.2.2.2.2.2.1 JH.2.2.2.2.2.2.2.1 JH.2.2.2.2.2.2.2.2.1 JH.2.2.2.2.2.2.2.2.2).bind λN4=>(Af.j18 k N4.1 N4.2.1 N4.2.2.1 N4.2.2.2.1 N4.2.2.2.2.1 N4.2.2.2.2.2.1 N4.2.2.2.2.2.2.1 N4.2.2.2.2.2.2.2.1 N4.2.2.2.2.2.2.2.2.1 N4.2.2.2.2.2.2.2.2.2)) else(Af.j9 k JH.2.1 JH.2.2.1 JH.2.2.2.1 JH.2.2.2.2.1 JH.2.2.2.2.2.1 JH.2.2.2.2.2.2.1 JH.2.2.2.2.2.2.2.1 JH.2.2.2.2.2.2.2.2.1 JH.2.2.2.2.2.2.2.2.2))) else(Af.j9 k FD.2.1 FD.2.2.1 FD.2.2.2.1 FD.2.2.2.2.1 FD.2.2.2.2.2.1 FD.2.2.2.2.2.2.1 FD.2.2.2.2.2.2.2.1 FD.2.2.2.2.2.2.2.2.1 FD.2.2.2.2.2.2.2.2.2)))))))
/-! ### rat_Of: function 103 -/
def R0.f (k:Nat) (a0:Int):Option (Bool × List Int × List Int):=if a0<0 then((Ig.f k (IntKind.u64.wrap (-(IntKind.u64.wrap (a0))))).bind λANX=>((Ls.f).bind λANY=>(some (true,ANX,ANY)))) else((Ig.f k (IntKind.u64.wrap (a0))).bind λANZ=>((Ls.f).bind λANa=>(some (false,ANZ,ANa))))
/-! ### bank_Bank_quotient: function by hand -/
def Bg.f (k:Nat) (AX Al:Int) (Am:List (Int × Int × Int × Bool × (List Int) × List Int)) (Ao BD:List Bool) (BB BH:Int) (BJ:Bool) (BE a1 a2:Int):Option (Bool × List Int × List Int × Int × Int × List (Int × Int × Int × Bool × (List Int) × List Int) × List Bool × List Bool × Int × Int × Bool × Int):=(R0.f k a2).bind λAT=>((R0.f k a1).bind λCj=>((I4.f k Cj.1 Cj.2.1 Cj.2.2 AT.1 AT.2.1 AT.2.2).bind λKL=>((A8.f k AX Al Am Ao BD BB BH BJ BE KL.2.2.2).bind λCa=>(some (KL.1,KL.2.1,KL.2.2.1,Ca.1,Ca.2.1,Ca.2.2.1,Ca.2.2.2.1,Ca.2.2.2.2.1,Ca.2.2.2.2.2.1,Ca.2.2.2.2.2.2.1,Ca.2.2.2.2.2.2.2.1,Ca.2.2.2.2.2.2.2.2)))))
/-! ### bank_Bank_Lit: function by hand -/
def CU.f (k:Nat) (AX Al:Int) (Am:List (Int × Int × Int × Bool × (List Int) × List Int)) (Ao BD:List Bool) (BB BH:Int) (BJ:Bool) (BE D7 DR El:Int):Option (Bool × List Int × List Int × Int × Int × Int × Int × List (Int × Int × Int × Bool × (List Int) × List Int) × List Bool × List Bool × Int × Int × Bool × Int):=(BV.f k AX Al Am Ao BD BB BH BJ BE).bind λAT=>(if AT.1=true then(some (false,([]:List Int),([]:List Int),0,0,AT.2.1,AT.2.2.1,AT.2.2.2.1,AT.2.2.2.2.1,AT.2.2.2.2.2.1,AT.2.2.2.2.2.2.1,AT.2.2.2.2.2.2.2.1,AT.2.2.2.2.2.2.2.2.1,AT.2.2.2.2.2.2.2.2.2)) else(if AT.2.1=0 then((Bg.f k AT.2.1 AT.2.2.1 AT.2.2.2.1 AT.2.2.2.2.1 AT.2.2.2.2.2.1 AT.2.2.2.2.2.2.1 AT.2.2.2.2.2.2.2.1 AT.2.2.2.2.2.2.2.2.1 AT.2.2.2.2.2.2.2.2.2 D7 DR).bind λCj=>(some (Cj.1,Cj.2.1,Cj.2.2.1,0,0,Cj.2.2.2.1,Cj.2.2.2.2.1,Cj.2.2.2.2.2.1,Cj.2.2.2.2.2.2.1,Cj.2.2.2.2.2.2.2.1,Cj.2.2.2.2.2.2.2.2.1,Cj.2.2.2.2.2.2.2.2.2.1,Cj.2.2.2.2.2.2.2.2.2.2.1,Cj.2.2.2.2.2.2.2.2.2.2.2))) else(if AT.2.1=1 then((Di.f El).bind λt3=>(some (false,([]:List Int),([]:List Int),t3,0,AT.2.1,AT.2.2.1,AT.2.2.2.1,AT.2.2.2.2.1,AT.2.2.2.2.2.1,AT.2.2.2.2.2.2.1,AT.2.2.2.2.2.2.2.1,AT.2.2.2.2.2.2.2.2.1,AT.2.2.2.2.2.2.2.2.2))) else((Br.f k AT.2.1 AT.2.2.1 AT.2.2.2.1 AT.2.2.2.2.1 AT.2.2.2.2.2.1 AT.2.2.2.2.2.2.1 AT.2.2.2.2.2.2.2.1 AT.2.2.2.2.2.2.2.2.1 AT.2.2.2.2.2.2.2.2.2 1 AT.2.2.1 0 false ([]:List Int) ([]:List Int)).bind λCa=>(if Ca.2.2.2.2.2.2.2.2.2.2.2.2.2=0 then(some (Ca.1,Ca.2.1,Ca.2.2.1,Ca.2.2.2.1,Ca.2.2.2.2.1,Ca.2.2.2.2.2.1,(wrap64 (Ca.2.2.2.2.2.2.1+1)),Ca.2.2.2.2.2.2.2.1,Ca.2.2.2.2.2.2.2.2.1,Ca.2.2.2.2.2.2.2.2.2.1,Ca.2.2.2.2.2.2.2.2.2.2.1,Ca.2.2.2.2.2.2.2.2.2.2.2.1,Ca.2.2.2.2.2.2.2.2.2.2.2.2.1,Ca.2.2.2.2.2.2.2.2.2.2.2.2.2)) else(some (Ca.1,Ca.2.1,Ca.2.2.1,Ca.2.2.2.1,Ca.2.2.2.2.1,Ca.2.2.2.2.2.1,Ca.2.2.2.2.2.2.1,Ca.2.2.2.2.2.2.2.1,Ca.2.2.2.2.2.2.2.2.1,Ca.2.2.2.2.2.2.2.2.2.1,Ca.2.2.2.2.2.2.2.2.2.2.1,Ca.2.2.2.2.2.2.2.2.2.2.2.1,Ca.2.2.2.2.2.2.2.2.2.2.2.2.1,Ca.2.2.2.2.2.2.2.2.2.2.2.2.2)))))))
/-! ### bank_Bank_Log: function by hand -/
def G4.f (k:Nat) (AX Al:Int) (Am:List (Int × Int × Int × Bool × (List Int) × List Int)) (Ao BD:List Bool) (BB BH:Int) (BJ:Bool) (BE:Int) (D7:Bool) (DR El:List Int) (LU LV:Int):Option (Bool × List Int × List Int × Int × Int × Int × Int × List (Int × Int × Int × Bool × (List Int) × List Int) × List Bool × List Bool × Int × Int × Bool × Int):=(AM.f k AX Al Am Ao BD BB BH BJ BE 10 D7 DR El LU LV false ([]:List Int) ([]:List Int) 0 0 false).bind λAT=>(some (AT.1,AT.2.1,AT.2.2.1,AT.2.2.2.1,AT.2.2.2.2.1,AT.2.2.2.2.2.1,AT.2.2.2.2.2.2.1,AT.2.2.2.2.2.2.2.1,AT.2.2.2.2.2.2.2.2.1,AT.2.2.2.2.2.2.2.2.2.1,AT.2.2.2.2.2.2.2.2.2.2.1,AT.2.2.2.2.2.2.2.2.2.2.2.1,AT.2.2.2.2.2.2.2.2.2.2.2.2.1,AT.2.2.2.2.2.2.2.2.2.2.2.2.2))
/-! ### bank_Bank_Met: function by hand -/
def D4.f (k:Nat) (AX Al:Int) (Am:List (Int × Int × Int × Bool × (List Int) × List Int)) (Ao BD:List Bool) (BB BH:Int) (BJ:Bool) (BE:Int):Option (List Bool × Int × Int × List (Int × Int × Int × Bool × (List Int) × List Int) × List Bool × List Bool × Int × Int × Bool × Int):=if(([]:List Bool).length+BD.length)*1<=140737488355328 then(some ((([]:List Bool)++BD),AX,Al,Am,Ao,BD,BB,BH,BJ,BE)) else none
/-! ### bank_Bank_Mul: function by hand -/
def DX.f (k:Nat) (AX Al:Int) (Am:List (Int × Int × Int × Bool × (List Int) × List Int)) (Ao BD:List Bool) (BB BH:Int) (BJ:Bool) (BE:Int) (D7:Bool) (DR El:List Int) (LU LV:Int) (F1:Bool) (HD II:List Int) (Jf K6:Int):Option (Bool × List Int × List Int × Int × Int × Int × Int × List (Int × Int × Int × Bool × (List Int) × List Int) × List Bool × List Bool × Int × Int × Bool × Int):=(AM.f k AX Al Am Ao BD BB BH BJ BE 6 D7 DR El LU LV F1 HD II Jf K6 true).bind λAT=>(some (AT.1,AT.2.1,AT.2.2.1,AT.2.2.2.1,AT.2.2.2.2.1,AT.2.2.2.2.2.1,AT.2.2.2.2.2.2.1,AT.2.2.2.2.2.2.2.1,AT.2.2.2.2.2.2.2.2.1,AT.2.2.2.2.2.2.2.2.2.1,AT.2.2.2.2.2.2.2.2.2.2.1,AT.2.2.2.2.2.2.2.2.2.2.2.1,AT.2.2.2.2.2.2.2.2.2.2.2.2.1,AT.2.2.2.2.2.2.2.2.2.2.2.2.2))
/-! ### bank_Bank_Neg: function by hand -/
def G5.f (k:Nat) (AX Al:Int) (Am:List (Int × Int × Int × Bool × (List Int) × List Int)) (Ao BD:List Bool) (BB BH:Int) (BJ:Bool) (BE:Int) (D7:Bool) (DR El:List Int) (LU LV:Int):Option (Bool × List Int × List Int × Int × Int × Int × Int × List (Int × Int × Int × Bool × (List Int) × List Int) × List Bool × List Bool × Int × Int × Bool × Int):=(AM.f k AX Al Am Ao BD BB BH BJ BE 3 D7 DR El LU LV false ([]:List Int) ([]:List Int) 0 0 false).bind λAT=>(some (AT.1,AT.2.1,AT.2.2.1,AT.2.2.2.1,AT.2.2.2.2.1,AT.2.2.2.2.2.1,AT.2.2.2.2.2.2.1,AT.2.2.2.2.2.2.2.1,AT.2.2.2.2.2.2.2.2.1,AT.2.2.2.2.2.2.2.2.2.1,AT.2.2.2.2.2.2.2.2.2.2.1,AT.2.2.2.2.2.2.2.2.2.2.2.1,AT.2.2.2.2.2.2.2.2.2.2.2.2.1,AT.2.2.2.2.2.2.2.2.2.2.2.2.2))
/-! ### nat_Bit: function 117 -/
def Lt.f (l0:List Int) (a1:Int):Option (Bool):=if a1>=0 then(if(wrap64 (Int.tdiv a1 64))<(l0.length:Int) then(if 0<=(wrap64 (Int.tdiv a1 64)) then(if 0<=(Int.tmod a1 64) then(some ((Go.bits .and .u64 (shr .u64 (rd l0 (wrap64 (Int.tdiv a1 64))) (Int.tmod a1 64)) 1)==1)) else(none)) else(none)) else(some false)) else(some false)
/-! ### nat_Even: function 118 -/
def EE.l0:Nat->List Int->Int->Int->Option (Int)
 | 0,_,_,_=>none
 | k+1,x0,x7,x8=>if x8<x7 then((Lt.f x0 x8).bind λANb=>(if ANb=true then(some x8) else(EE.l0 k x0 x7 (wrap64 (x8+1))))) else(some 0)
def EE.f (k:Nat) (l0:List Int):Option (Int):=(Cd.f k l0).bind λANc=>(EE.l0 k l0 ANc 0)
/-! ### fround_Of: function 63 -/
def Dt.j0:Nat->Bool->List Int->Int->Option (Int)
 | 0,_,_,_=>none
 | k+1,x0,x1,x2=>(Cd.f k x1).bind λAAz=>(if AAz<=64 then((Iq.f k x1).bind λALA=>((Aw.f k x0 ALA.1 x2).bind λANd=>(some ANd))) else(if(mx (wrap64 ((wrap64 (AAz+x2))-53)) (-1074))>971 then((CY.f x0).bind λANe=>(some ANe)) else((D8.f k x1 (wrap64 ((mx (wrap64 ((wrap64 (AAz+x2))-53)) (-1074))-x2))).bind λANf=>((Iq.f k ANf).bind λALB=>((Lt.f x1 (wrap64 ((wrap64 ((mx (wrap64 ((wrap64 (AAz+x2))-53)) (-1074))-x2))-1))).bind λANg=>((EE.f k x1).bind λANh=>((Eo.f ALB.1 ANg (decide (ANh<(wrap64 ((wrap64 ((mx (wrap64 ((wrap64 (AAz+x2))-53)) (-1074))-x2))-1))))).bind λANi=>((Cg.f k x0 ANi (mx (wrap64 ((wrap64 (AAz+x2))-53)) (-1074))).bind λANj=>(some ANj)))))))))
def Dt.f (k:Nat) (a0:Bool) (l1:List Int) (a2:Int) (a3:Bool):Option (Int):=if a3=true then((B0.f k l1 1).bind λANk=>((Ig.f k 1).bind λANl=>((BQ.f k ANk ANl).bind λANm=>(Dt.j0 k a0 ANm ((mn (mx a2 (-1099511627776)) 1099511627776)-1))))) else(Dt.j0 k a0 l1 (mn (mx a2 (-1099511627776)) 1099511627776))
/-! ### fround_FromRat: function 80 -/
def Bk.j0 (k:Nat) (x3:Int) (X2 bT:Bool) (zg zh:List Int):Option (Int):=if X2=true then(if bT=true then((HZ.f k bT zg zh).bind λANn=>((Cg.f k (ANn !=0) 0 0).bind λANo=>(some ANo))) else((Cg.f k false 0 0).bind λANp=>(some ANp))) else(if x3>1200 then((CY.f bT).bind λANq=>(some ANq)) else((B0.f k zg (mx (wrap64 (70-x3)) 0)).bind λANr=>((Gx.f k ANr zh).bind λAGv=>((Dt.f k bT AGv.1 (wrap64 (-(mx (wrap64 (70-x3)) 0))) (decide ((AGv.2.1.length:Int)>0))).bind λANs=>(some ANs)))))
def Bk.f (k:Nat) (ED:Bool) (GL GR:List Int):Option (Int):=(Cd.f k GL).bind λAIX=>((Cd.f k GR).bind λAIY=>((HZ.f k ED GL GR).bind λANt=>(if ANt=0 then(Bk.j0 k (wrap64 (AIX-AIY)) true ED GL GR) else(Bk.j0 k (wrap64 (AIX-AIY)) (decide ((wrap64 (AIX-AIY))<(-1200))) ED GL GR))))
/-! ### bank_Bank_Num: function by hand -/
def DW.f (k:Nat) (AX Al:Int) (Am:List (Int × Int × Int × Bool × (List Int) × List Int)) (Ao BD:List Bool) (BB BH:Int) (BJ:Bool) (BE a1 a2:Int):Option (Bool × List Int × List Int × Int × Int × Int × Int × List (Int × Int × Int × Bool × (List Int) × List Int) × List Bool × List Bool × Int × Int × Bool × Int):=(BV.f k AX Al Am Ao BD BB BH BJ BE).bind λAT=>(if AT.1=true then(some (false,([]:List Int),([]:List Int),0,0,AT.2.1,AT.2.2.1,AT.2.2.2.1,AT.2.2.2.2.1,AT.2.2.2.2.2.1,AT.2.2.2.2.2.2.1,AT.2.2.2.2.2.2.2.1,AT.2.2.2.2.2.2.2.2.1,AT.2.2.2.2.2.2.2.2.2)) else((Bg.f k AT.2.1 AT.2.2.1 AT.2.2.2.1 AT.2.2.2.2.1 AT.2.2.2.2.2.1 AT.2.2.2.2.2.2.1 AT.2.2.2.2.2.2.2.1 AT.2.2.2.2.2.2.2.2.1 AT.2.2.2.2.2.2.2.2.2 a1 a2).bind λCj=>(if Cj.2.2.2.2.2.2.2.2.2.2.2=0 then(if Cj.2.2.2.1=0 then(some (Cj.1,Cj.2.1,Cj.2.2.1,0,0,Cj.2.2.2.1,Cj.2.2.2.2.1,Cj.2.2.2.2.2.1,Cj.2.2.2.2.2.2.1,Cj.2.2.2.2.2.2.2.1,Cj.2.2.2.2.2.2.2.2.1,Cj.2.2.2.2.2.2.2.2.2.1,Cj.2.2.2.2.2.2.2.2.2.2.1,Cj.2.2.2.2.2.2.2.2.2.2.2)) else(if Cj.2.2.2.1=1 then((Bk.f k Cj.1 Cj.2.1 Cj.2.2.1).bind λt3=>(some (false,([]:List Int),([]:List Int),t3,0,Cj.2.2.2.1,Cj.2.2.2.2.1,Cj.2.2.2.2.2.1,Cj.2.2.2.2.2.2.1,Cj.2.2.2.2.2.2.2.1,Cj.2.2.2.2.2.2.2.2.1,Cj.2.2.2.2.2.2.2.2.2.1,Cj.2.2.2.2.2.2.2.2.2.2.1,Cj.2.2.2.2.2.2.2.2.2.2.2))) else((Br.f k Cj.2.2.2.1 Cj.2.2.2.2.1 Cj.2.2.2.2.2.1 Cj.2.2.2.2.2.2.1 Cj.2.2.2.2.2.2.2.1 Cj.2.2.2.2.2.2.2.2.1 Cj.2.2.2.2.2.2.2.2.2.1 Cj.2.2.2.2.2.2.2.2.2.2.1 Cj.2.2.2.2.2.2.2.2.2.2.2 2 0 0 Cj.1 Cj.2.1 Cj.2.2.1).bind λCa=>(some (Ca.1,Ca.2.1,Ca.2.2.1,Ca.2.2.2.1,Ca.2.2.2.2.1,Ca.2.2.2.2.2.1,Ca.2.2.2.2.2.2.1,Ca.2.2.2.2.2.2.2.1,Ca.2.2.2.2.2.2.2.2.1,Ca.2.2.2.2.2.2.2.2.2.1,Ca.2.2.2.2.2.2.2.2.2.2.1,Ca.2.2.2.2.2.2.2.2.2.2.2.1,Ca.2.2.2.2.2.2.2.2.2.2.2.2.1,Ca.2.2.2.2.2.2.2.2.2.2.2.2.2))))) else(some (false,([]:List Int),([]:List Int),0,0,Cj.2.2.2.1,Cj.2.2.2.2.1,Cj.2.2.2.2.2.1,Cj.2.2.2.2.2.2.1,Cj.2.2.2.2.2.2.2.1,Cj.2.2.2.2.2.2.2.2.1,Cj.2.2.2.2.2.2.2.2.2.1,Cj.2.2.2.2.2.2.2.2.2.2.1,Cj.2.2.2.2.2.2.2.2.2.2.2)))))
/-! ### bank_Bank_Ops: function by hand -/
def D6.f (k:Nat) (AX Al:Int) (Am:List (Int × Int × Int × Bool × (List Int) × List Int)) (Ao BD:List Bool) (BB BH:Int) (BJ:Bool) (BE:Int):Option (Int × Int × Int × List (Int × Int × Int × Bool × (List Int) × List Int) × List Bool × List Bool × Int × Int × Bool × Int):=some (BH,AX,Al,Am,Ao,BD,BB,BH,BJ,BE)
/-! ### bank_copied: function by hand -/
def GY.f (k:Nat) (ED:Bool) (F2 LW:List Int):Option (Bool × List Int × List Int):=if(([]:List Int).length+F2.length)*8<=140737488355328 then(if(([]:List Int).length+LW.length)*8<=140737488355328 then(some (ED,(([]:List Int)++F2),(([]:List Int)++LW))) else none) else none
/-! ### bank_Bank_Program: function by hand -/
def Aj.l0:Nat->(List (Int × Int × Int × Bool × (List Int) × List Int))->(List (Int × Int × Int × Bool × (List Int) × List Int))->Int->Int->Int->Int->List Bool->List Bool->Int->Int->Bool->Int->Option (List (Int × Int × Int × Bool × (List Int) × List Int) × Int × Int × List (Int × Int × Int × Bool × (List Int) × List Int) × List Bool × List Bool × Int × Int × Bool × Int)
 | 0,_,_,_,_,_,_,_,_,_,_,_,_=>none
 | k+1,x3,Lr,iq,Dm,zj,zk,zl,zm,zn,zo,zp,zq=>if Dm<iq then(if 0<=Dm then(if Dm<(Lr.length:Int) then((GY.f k (Ay Lr Dm).2.2.2.1 (Ay Lr Dm).2.2.2.2.1 (Ay Lr Dm).2.2.2.2.2).bind λAT=>(if(x3.length+1)*80<=140737488355328 then(Aj.l0 k (x3++ [((Ay Lr Dm).1,((Ay Lr Dm).2.1,((Ay Lr Dm).2.2.1,(AT.1,(AT.2.1,AT.2.2)))))]) Lr iq (wrap64 (Dm+1)) zj zk zl zm zn zo zp zq) else none)) else none) else none) else(some (x3,zj,zk,Lr,zl,zm,zn,zo,zp,zq))
def Aj.f (k:Nat) (AX Al:Int) (Am:List (Int × Int × Int × Bool × (List Int) × List Int)) (Ao BD:List Bool) (BB BH:Int) (BJ:Bool) (BE:Int):Option (List (Int × Int × Int × Bool × (List Int) × List Int) × Int × Int × List (Int × Int × Int × Bool × (List Int) × List Int) × List Bool × List Bool × Int × Int × Bool × Int):=Aj.l0 k [] Am (Am.length:Int) 0 AX Al Ao BD BB BH BJ BE
/-! ### bank_Bank_Sqrt: function by hand -/
def GM.f (k:Nat) (AX Al:Int) (Am:List (Int × Int × Int × Bool × (List Int) × List Int)) (Ao BD:List Bool) (BB BH:Int) (BJ:Bool) (BE:Int) (D7:Bool) (DR El:List Int) (LU LV:Int):Option (Bool × List Int × List Int × Int × Int × Int × Int × List (Int × Int × Int × Bool × (List Int) × List Int) × List Bool × List Bool × Int × Int × Bool × Int):=(AM.f k AX Al Am Ao BD BB BH BJ BE 8 D7 DR El LU LV false ([]:List Int) ([]:List Int) 0 0 false).bind λAT=>(some (AT.1,AT.2.1,AT.2.2.1,AT.2.2.2.1,AT.2.2.2.2.1,AT.2.2.2.2.2.1,AT.2.2.2.2.2.2.1,AT.2.2.2.2.2.2.2.1,AT.2.2.2.2.2.2.2.2.1,AT.2.2.2.2.2.2.2.2.2.1,AT.2.2.2.2.2.2.2.2.2.2.1,AT.2.2.2.2.2.2.2.2.2.2.2.1,AT.2.2.2.2.2.2.2.2.2.2.2.2.1,AT.2.2.2.2.2.2.2.2.2.2.2.2.2))
/-! ### bank_Bank_Sub: function by hand -/
def G6.f (k:Nat) (AX Al:Int) (Am:List (Int × Int × Int × Bool × (List Int) × List Int)) (Ao BD:List Bool) (BB BH:Int) (BJ:Bool) (BE:Int) (D7:Bool) (DR El:List Int) (LU LV:Int) (F1:Bool) (HD II:List Int) (Jf K6:Int):Option (Bool × List Int × List Int × Int × Int × Int × Int × List (Int × Int × Int × Bool × (List Int) × List Int) × List Bool × List Bool × Int × Int × Bool × Int):=(AM.f k AX Al Am Ao BD BB BH BJ BE 5 D7 DR El LU LV F1 HD II Jf K6 true).bind λAT=>(some (AT.1,AT.2.1,AT.2.2.1,AT.2.2.2.1,AT.2.2.2.2.1,AT.2.2.2.2.2.1,AT.2.2.2.2.2.2.1,AT.2.2.2.2.2.2.2.1,AT.2.2.2.2.2.2.2.2.1,AT.2.2.2.2.2.2.2.2.2.1,AT.2.2.2.2.2.2.2.2.2.2.1,AT.2.2.2.2.2.2.2.2.2.2.2.1,AT.2.2.2.2.2.2.2.2.2.2.2.2.1,AT.2.2.2.2.2.2.2.2.2.2.2.2.2))
/-! ### bank_New: function by hand -/
def Gv.f (k:Nat) (a0:Int) (a1:List Bool):Option (Bool × Int × Int × List Bool × Int × Int × Bool × Int):=if a0<0 then(some (true,0,0,([]:List Bool),0,0,false,0)) else(if a0>2 then(some (true,0,0,([]:List Bool),0,0,false,0)) else(if(([]:List Bool).length+a1.length)*1<=140737488355328 then(some (false,a0,0,(([]:List Bool)++a1),0,0,false,0)) else none))
/-! ### gcd_Coprime: function 96 -/
def GZ.f (k:Nat) (l0 l1:List Int):Option (Bool):=(Em.f k l0 l1).bind λANu=>((Ig.f k 1).bind λANv=>((Dl.f k ANu ANv).bind λANw=>(some (ANw==0))))
/-! ### rat_Right: function 101 -/
def GK.f (k:Nat) (ED:Bool) (GL GR:List Int):Option (Bool):=(FP.f GL).bind λANx=>(if ANx=true then((FP.f GR).bind λANy=>(if ANy=true then(if(GR.length:Int)>0 then((GZ.f k GL GR).bind λANz=>(if ANz=true then(if ED=true then(some (!((GL.length:Int)==0))) else(some (!false))) else(some false))) else(some false)) else(some false))) else(some false))
/-! ### line_Arity: function by hand -/
def Ch.j4:Nat->Option (Int)
 | 0=>none
 | k+1=>some 0
def Ch.f (k:Nat) (a0:Int):Option (Int):=if a0=1 then(Ch.j4 k) else(if a0=2 then(Ch.j4 k) else(if a0=3 then(some 1) else(if a0=8 then(some 1) else(if a0=9 then(some 1) else(if a0=10 then(some 1) else(if a0=4 then(some 2) else(if a0=5 then(some 2) else(if a0=6 then(some 2) else(if a0=7 then(some 2) else(some (-1)))))))))))
/-! ### line_none: function 203 -/
def G0.f (ED:Bool) (GL GR:List Int):Option (Bool):=if ED=true then(some false) else(if(GL.length:Int)=0 then(some ((GR.length:Int)==0)) else(some false))
/-! ### line_fits: function by hand -/
def IG.f (k:Nat) (ED F2 LW:Int) (AA0:Bool) (AA1 AA2:List Int) (a1:Int):Option (Bool):=(Ch.f k ED).bind λt1=>(if t1=1 then(if F2>=0 then(if F2<a1 then(if LW=0 then((G0.f AA0 AA1 AA2).bind λt2=>(some t2)) else(some false)) else(some false)) else(some false)) else(if t1=2 then(if F2>=0 then(if F2<a1 then(if LW>=0 then(if LW<a1 then((G0.f AA0 AA1 AA2).bind λt3=>(some t3)) else(some false)) else(some false)) else(some false)) else(some false)) else(if ED=1 then(if F2>=0 then(if F2<65536 then(if LW=0 then((G0.f AA0 AA1 AA2).bind λt4=>(some t4)) else(some false)) else(some false)) else(some false)) else(if ED=2 then(if F2=0 then(if LW=0 then((GK.f k AA0 AA1 AA2).bind λt5=>(some t5)) else(some false)) else(some false)) else(some false)))))
/-! ### line_Right: function by hand -/
def Ci.l0:Nat->(List (Int × Int × Int × Bool × (List Int) × List Int))->Int->Int->Option (Bool)
 | 0,_,_,_=>none
 | k+1,x8,x9,Ik=>if Ik<x9 then(if 0<=Ik then(if Ik<(x8.length:Int) then((IG.f k (Ay x8 Ik).1 (Ay x8 Ik).2.1 (Ay x8 Ik).2.2.1 (Ay x8 Ik).2.2.2.1 (Ay x8 Ik).2.2.2.2.1 (Ay x8 Ik).2.2.2.2.2 Ik).bind λt1=>(if t1=true then(Ci.l0 k x8 x9 (wrap64 (Ik+1))) else(some false))) else none) else none) else(some true)
def Ci.f (k:Nat) (a0:List (Int × Int × Int × Bool × (List Int) × List Int)):Option (Bool):=if(a0.length:Int)>65536 then(some false) else(Ci.l0 k a0 (a0.length:Int) 0)
/-! ### evals_right: function by hand -/
def CV.l0:Nat->(List (Bool × (List Int) × List Int))->Int->Int->Option (Bool)
 | 0,_,_,_=>none
 | k+1,x5,x6,x7=>if x7<x6 then(if 0<=x7 then(if x7<(x5.length:Int) then((GK.f k (CI x5 x7).1 (CI x5 x7).2.1 (CI x5 x7).2.2).bind λt1=>(if t1=true then(CV.l0 k x5 x6 (wrap64 (x7+1))) else(some false))) else none) else none) else(some true)
def CV.f (k:Nat) (a0:List (Bool × (List Int) × List Int)):Option (Bool):=CV.l0 k a0 (a0.length:Int) 0
/-! ### evals_exact_form: function by hand -/
def B7.f (k:Nat) (AX Al Am:List (Bool × (List Int) × List Int)) (Ao:Int):Option (Bool × List Int × List Int × Int × List (Bool × (List Int) × List Int) × List (Bool × (List Int) × List Int) × List (Bool × (List Int) × List Int) × Int):=if Ao>=(Am.length:Int) then(some (false,([]:List Int),([]:List Int),6,AX,Al,Am,Ao)) else(if 0<=(wrap64 ((wrap64 (Ao+1))-1)) then(if(wrap64 ((wrap64 (Ao+1))-1))<(Am.length:Int) then(some ((CI Am (wrap64 ((wrap64 (Ao+1))-1))).1,(CI Am (wrap64 ((wrap64 (Ao+1))-1))).2.1,(CI Am (wrap64 ((wrap64 (Ao+1))-1))).2.2,0,AX,Al,Am,(wrap64 (Ao+1)))) else none) else none)
/-! ### evals_exact_step: function by hand -/
def Du.f (k:Nat) (AX Al Am:List (Bool × (List Int) × List Int)) (Ao D7 DR El:Int) (LU:Bool) (LV AFg:List Int):Option (Bool × List Int × List Int × Int × List (Bool × (List Int) × List Int) × List (Bool × (List Int) × List Int) × List (Bool × (List Int) × List Int) × Int):=if D7=1 then(if DR>=(Al.length:Int) then(some (false,([]:List Int),([]:List Int),11,AX,Al,Am,Ao)) else(if 0<=DR then(if DR<(Al.length:Int) then(some ((CI Al DR).1,(CI Al DR).2.1,(CI Al DR).2.2,0,AX,Al,Am,Ao)) else none) else none)) else(if D7=2 then(some (LU,LV,AFg,0,AX,Al,Am,Ao)) else(if D7=3 then(if 0<=DR then(if DR<(AX.length:Int) then((Iz.f k (CI AX DR).1 (CI AX DR).2.1 (CI AX DR).2.2).bind λAT=>(some (AT.1,AT.2.1,AT.2.2,0,AX,Al,Am,Ao))) else none) else none) else(if D7=4 then(if 0<=DR then(if DR<(AX.length:Int) then(if 0<=El then(if El<(AX.length:Int) then((IF.f k (CI AX DR).1 (CI AX DR).2.1 (CI AX DR).2.2 (CI AX El).1 (CI AX El).2.1 (CI AX El).2.2).bind λCj=>(some (Cj.1,Cj.2.1,Cj.2.2,0,AX,Al,Am,Ao))) else none) else none) else none) else none) else(if D7=5 then(if 0<=DR then(if DR<(AX.length:Int) then(if 0<=El then(if El<(AX.length:Int) then((I0.f k (CI AX DR).1 (CI AX DR).2.1 (CI AX DR).2.2 (CI AX El).1 (CI AX El).2.1 (CI AX El).2.2).bind λKL=>(some (KL.1,KL.2.1,KL.2.2,0,AX,Al,Am,Ao))) else none) else none) else none) else none) else(if D7=6 then(if 0<=DR then(if DR<(AX.length:Int) then(if 0<=El then(if El<(AX.length:Int) then((IE.f k (CI AX DR).1 (CI AX DR).2.1 (CI AX DR).2.2 (CI AX El).1 (CI AX El).2.1 (CI AX El).2.2).bind λCa=>(some (Ca.1,Ca.2.1,Ca.2.2,0,AX,Al,Am,Ao))) else none) else none) else none) else none) else(if D7=7 then(if 0<=DR then(if DR<(AX.length:Int) then(if 0<=El then(if El<(AX.length:Int) then((I4.f k (CI AX DR).1 (CI AX DR).2.1 (CI AX DR).2.2 (CI AX El).1 (CI AX El).2.1 (CI AX El).2.2).bind λHQ=>(some (HQ.1,HQ.2.1,HQ.2.2.1,HQ.2.2.2,AX,Al,Am,Ao))) else none) else none) else none) else none) else((B7.f k AX Al Am Ao).bind λFD=>(some (FD.1,FD.2.1,FD.2.2.1,FD.2.2.2.1,FD.2.2.2.2.1,FD.2.2.2.2.2.1,FD.2.2.2.2.2.2.1,FD.2.2.2.2.2.2.2)))))))))
/-! ### power_Bits: function 132 -/
def JF.f (k:Nat) (ED:Bool) (GL GR:List Int):Option (Int):=(Cd.f k GL).bind λALC=>((Cd.f k GR).bind λALD=>(some (mx ALC ALD)))
/-! ### evals_copied: function 87 -/
def Ff.f (ED:Bool) (GL GR:List Int):Option (Bool × List Int × List Int):=(some (([]:List Int):List Int)).bind λALE=>(if ALE.length+GL.length<17592186044416 then((some (([]:List Int):List Int)).bind λALF=>(if ALF.length+GR.length<17592186044416 then(some (ED,(ALE++GL),(ALF++GR))) else(none))) else(none))
/-! ### evals_Exact: function by hand -/
mutual
def Ak.l0:Nat->(List (Int × Int × Int × Bool × (List Int) × List Int))->Int->Int->(List (Bool × (List Int) × List Int))->(List (Bool × (List Int) × List Int))->(List (Bool × (List Int) × List Int))->Int->Option (List (Bool × (List Int) × List Int) × Int × Int)
 | 0,_,_,_,_,_,_,_=>none
 | k+1,uy,x32,YW,Oi,R4,fA,fD=>if YW<x32 then(if 0<=YW then(if YW<(uy.length:Int) then((Du.f k Oi R4 fA fD (Ay uy YW).1 (Ay uy YW).2.1 (Ay uy YW).2.2.1 (Ay uy YW).2.2.2.1 (Ay uy YW).2.2.2.2.1 (Ay uy YW).2.2.2.2.2).bind λCa=>(if Ca.2.2.2.1=0 then((JF.f k Ca.1 Ca.2.1 Ca.2.2.1).bind λt5=>(if t5>4096 then(Ak.qG k YW 5 uy x32 YW Ca.1 Ca.2.1 Ca.2.2.1 Ca.2.2.2.2.1 Ca.2.2.2.2.2.1 Ca.2.2.2.2.2.2.1 Ca.2.2.2.2.2.2.2) else(Ak.qG k YW Ca.2.2.2.1 uy x32 YW Ca.1 Ca.2.1 Ca.2.2.1 Ca.2.2.2.2.1 Ca.2.2.2.2.2.1 Ca.2.2.2.2.2.2.1 Ca.2.2.2.2.2.2.2))) else(Ak.qG k YW Ca.2.2.2.1 uy x32 YW Ca.1 Ca.2.1 Ca.2.2.1 Ca.2.2.2.2.1 Ca.2.2.2.2.2.1 Ca.2.2.2.2.2.2.1 Ca.2.2.2.2.2.2.2))) else none) else none) else(some (Oi,0,0))
def Ak.j2:Nat->Option (List (Bool × (List Int) × List Int) × Int × Int)
 | 0=>none
 | k+1=>some (([]:List (Bool × (List Int) × List Int)),0,1)
def Ak.qG:Nat->Int->Int->(List (Int × Int × Int × Bool × (List Int) × List Int))->Int->Int->Bool->List Int->List Int->(List (Bool × (List Int) × List Int))->(List (Bool × (List Int) × List Int))->(List (Bool × (List Int) × List Int))->Int->Option (List (Bool × (List Int) × List Int) × Int × Int)
 | 0,_,_,_,_,_,_,_,_,_,_,_,_=>none
 | k+1,Ik,Dm,uy,x32,YW,ez,e8,e9,Oi,R4,fA,fD=>if Dm=0 then((Ff.f ez e8 e9).bind λFD=>(if(Oi.length+1)*56<=140737488355328 then(Ak.l0 k uy x32 (wrap64 (YW+1)) (Oi++ [(FD.1,(FD.2.1,FD.2.2))]) R4 fA fD) else none)) else(some (([]:List (Bool × (List Int) × List Int)),Ik,Dm))
end
def Ak.f (k:Nat) (a0:List (Int × Int × Int × Bool × (List Int) × List Int)) (a1 a2:List (Bool × (List Int) × List Int)):Option (List (Bool × (List Int) × List Int) × Int × Int):=(Ci.f k a0).bind λt1=>(if t1=true then((CV.f k a1).bind λt2=>(if t2=true then((CV.f k a2).bind λt3=>(if t3=true then(Ak.l0 k a0 (a0.length:Int) 0 [] a1 a2 0) else(Ak.j2 k))) else(Ak.j2 k))) else(Ak.j2 k))
/-! ### evals_double: function by hand -/
def Gm.f (k:Nat) (ED F2 LW:Int) (AA0:Bool) (AA1 AA2 a1 a2:List Int):Option (Int):=if ED=1 then(if 0<=F2 then(if F2<(a2.length:Int) then((Di.f (rd a2 F2)).bind λt1=>(some t1)) else none) else none) else(if ED=2 then((Bk.f k AA0 AA1 AA2).bind λt2=>(some t2)) else(if ED=3 then(if 0<=F2 then(if F2<(a1.length:Int) then((EV.f (rd a1 F2)).bind λt3=>(some t3)) else none) else none) else(if ED=4 then(if 0<=F2 then(if F2<(a1.length:Int) then(if 0<=LW then(if LW<(a1.length:Int) then((BL.f k (rd a1 F2) (rd a1 LW)).bind λt4=>(some t4)) else none) else none) else none) else none) else(if ED=5 then(if 0<=F2 then(if F2<(a1.length:Int) then(if 0<=LW then(if LW<(a1.length:Int) then((Fa.f k (rd a1 F2) (rd a1 LW)).bind λt5=>(some t5)) else none) else none) else none) else none) else(if ED=6 then(if 0<=F2 then(if F2<(a1.length:Int) then(if 0<=LW then(if LW<(a1.length:Int) then((Ag.f k (rd a1 F2) (rd a1 LW)).bind λt6=>(some t6)) else none) else none) else none) else none) else(if ED=7 then(if 0<=F2 then(if F2<(a1.length:Int) then(if 0<=LW then(if LW<(a1.length:Int) then((BM.f k (rd a1 F2) (rd a1 LW)).bind λt7=>(some t7)) else none) else none) else none) else none) else(if ED=8 then(if 0<=F2 then(if F2<(a1.length:Int) then((B4.f k (rd a1 F2)).bind λt8=>(some t8)) else none) else none) else(if ED=9 then(if 0<=F2 then(if F2<(a1.length:Int) then((BR.f k (rd a1 F2)).bind λt9=>(some t9)) else none) else none) else(if 0<=F2 then(if F2<(a1.length:Int) then((BX.f k (rd a1 F2)).bind λt10=>(some t10)) else none) else none)))))))))
/-! ### evals_Float: function by hand -/
mutual
def BP.l0:Nat->List Int->List Int->(List (Int × Int × Int × Bool × (List Int) × List Int))->Int->Int->Option (List Int × Int × Int)
 | 0,_,_,_,_,_=>none
 | k+1,x1,x7,Dm,UW,X2=>if X2<UW then(if 0<=X2 then(if X2<(Dm.length:Int) then(if(Ay Dm X2).1=1 then(if(Ay Dm X2).2.1>=(x1.length:Int) then(some (([]:List Int),X2,11)) else(BP.j9 k x1 x7 Dm UW X2 (Ay Dm X2).1 (Ay Dm X2).2.1 (Ay Dm X2).2.2.1 (Ay Dm X2).2.2.2.1 (Ay Dm X2).2.2.2.2.1 (Ay Dm X2).2.2.2.2.2)) else(BP.j9 k x1 x7 Dm UW X2 (Ay Dm X2).1 (Ay Dm X2).2.1 (Ay Dm X2).2.2.1 (Ay Dm X2).2.2.2.1 (Ay Dm X2).2.2.2.2.1 (Ay Dm X2).2.2.2.2.2)) else none) else none) else(some (x7,0,0))
def BP.j9:Nat->List Int->List Int->(List (Int × Int × Int × Bool × (List Int) × List Int))->Int->Int->Int->Int->Int->Bool->List Int->List Int->Option (List Int × Int × Int)
 | 0,_,_,_,_,_,_,_,_,_,_,_=>none
 | k+1,x1,x7,Dm,UW,X2,AIZ,AIa,AIb,AIc,AId,AIe=>(Gm.f k AIZ AIa AIb AIc AId AIe x7 x1).bind λt2=>(if(x7.length+1)*8<=140737488355328 then(BP.l0 k x1 (x7++ [t2]) Dm UW (wrap64 (X2+1))) else none)
end
def BP.f (k:Nat) (a0:List (Int × Int × Int × Bool × (List Int) × List Int)) (a1:List Int):Option (List Int × Int × Int):=(Ci.f k a0).bind λt1=>(if t1=true then(BP.l0 k a1 [] a0 (a0.length:Int) 0) else(some (([]:List Int),0,1)))
/-! ### gr02_Size: function 134 -/
def BU.l0:Nat->List Int->Int->Option (Int)
 | 0,_,_=>none
 | k+1,x0,x3=>if x3>0 then(if 0<=(wrap64 (x3-1)) then(if(wrap64 (x3-1))<(x0.length:Int) then(if(rd x0 (wrap64 (x3-1)))=0 then(BU.l0 k x0 (wrap64 (x3-1))) else(some x3)) else(none)) else(none)) else(some x3)
def BU.f (k:Nat) (l0:List Int):Option (Int):=BU.l0 k l0 (l0.length:Int)
/-! ### gr02_Trim: function 140 -/
def Az.l0:Nat->List Int->List Int->Int->Int->Option (List Int)
 | 0,_,_,_,_=>none
 | k+1,x0,x3,x6,x7=>if x7<x6 then(if 0<=x7 then(if x7<(x0.length:Int) then(if x3.length<17592186044416 then(Az.l0 k x0 (x3++ [rd x0 x7]) x6 (wrap64 (x7+1))) else(none)) else(none)) else(none)) else(some x3)
def Az.f (k:Nat) (l0:List Int):Option (List Int):=(BU.f k l0).bind λt106=>(Az.l0 k l0 ([]:List Int) t106 0)
/-! ### gr02_Shl: function 90 -/
mutual
def Aq.l0:Nat->List Int->Int->List Int->Int->Int->Option (List Int)
 | 0,_,_,_,_,_=>none
 | k+1,x0,x1,x5,Dm,UW=>if UW<Dm then(if x5.length<17592186044416 then(Aq.l0 k x0 x1 (x5++ [0]) Dm (wrap64 (UW+1))) else(none)) else(Aq.l1 k x0 x1 x5 (x0.length:Int) 0)
def Aq.l1:Nat->List Int->Int->List Int->Int->Int->Option (List Int)
 | 0,_,_,_,_,_=>none
 | k+1,x0,x1,x5,Qn,N3=>if N3<Qn then(if 0<=N3 then(if N3<(x0.length:Int) then(if x5.length<17592186044416 then(Aq.l1 k x0 x1 (x5++ [rd x0 N3]) Qn (wrap64 (N3+1))) else(none)) else(none)) else(none)) else(if(x1%64)=0 then((Az.f k x5).bind λt118=>(some t118)) else(if x5.length<17592186044416 then((some (x5++ [0]:List Int)).bind λALG=>(Aq.l2 k ALG (x1%64) (wrap64 ((ALG.length:Int)-1)))) else(none)))
def Aq.l2:Nat->List Int->Int->Int->Option (List Int)
 | 0,_,_,_=>none
 | k+1,x5,x7,x8=>if x8>0 then(if 0<=x8 then(if x8<(x5.length:Int) then(if 0<=(wrap64 (x8-1)) then(if(wrap64 (x8-1))<(x5.length:Int) then(Aq.l2 k (x5.set (x8:Int).toNat (Go.bits .or .u64 (IntKind.u64.wrap ((rd x5 x8)*2^x7.toNat)) ((rd x5 (wrap64 (x8-1)))/2^(64-x7).toNat))) x7 (wrap64 (x8-1))) else(none)) else(none)) else(none)) else(none)) else(if 0<(x5.length:Int) then((Az.f k (x5.set (0:Int).toNat (IntKind.u64.wrap ((rd x5 0)*2^x7.toNat)))).bind λt129=>(some t129)) else(none))
end
def Aq.f (k:Nat) (l0:List Int) (a1:Int):Option (List Int):=Aq.l0 k l0 (mn (mx a1 0) 65536) ([]:List Int) ((mn (mx a1 0) 65536)/64) 0
/-! ### gr02_Shr: function 100 -/
mutual
def BC.l0:Nat->List Int->Int->List Int->Int->Option (List Int)
 | 0,_,_,_,_=>none
 | k+1,x0,x1,x5,x6=>if x6<(x0.length:Int) then(if 0<=x6 then(if x5.length<17592186044416 then(BC.l0 k x0 x1 (x5++ [rd x0 x6]) (wrap64 (x6+1))) else(none)) else(none)) else(if(x1%64)=0 then((Az.f k x5).bind λt136=>(some t136)) else(BC.l1 k x5 (x1%64) (x5.length:Int) 0))
def BC.l1:Nat->List Int->Int->Int->Int->Option (List Int)
 | 0,_,_,_,_=>none
 | k+1,x5,x7,TW,qI=>if qI<TW then(if 0<=qI then(if qI<(x5.length:Int) then((some (x5.set (qI:Int).toNat ((rd x5 qI)/2^x7.toNat):List Int)).bind λAFq=>(if(wrap64 (qI+1))<(x5.length:Int) then(if 0<=(wrap64 (qI+1)) then(BC.l1 k (AFq.set (qI:Int).toNat (Go.bits .or .u64 (rd AFq qI) (IntKind.u64.wrap ((rd AFq (wrap64 (qI+1)))*2^(64-x7).toNat)))) x7 TW (wrap64 (qI+1))) else(none)) else(BC.l1 k AFq x7 TW (wrap64 (qI+1))))) else(none)) else(none)) else((Az.f k x5).bind λt144=>(some t144))
end
def BC.f (k:Nat) (l0:List Int) (a1:Int):Option (List Int):=BC.l0 k l0 (mx a1 0) ([]:List Int) (wrap64 ((mx a1 0)/64))
/-! ### gr02_Halves: function 143 -/
def Bi.l0:Nat->List Int->List Int->Int->Int->Option (List Int)
 | 0,_,_,_,_=>none
 | k+1,x0,x3,x6,x7=>if x7<x6 then(if 0<=x7 then(if x7<(x0.length:Int) then(if x3.length<17592186044416 then((some (x3++ [Go.bits .and .u64 (rd x0 x7) 4294967295]:List Int)).bind λALH=>(if ALH.length<17592186044416 then(Bi.l0 k x0 (ALH++ [(rd x0 x7)/4294967296]) x6 (wrap64 (x7+1))) else(none))) else(none)) else(none)) else(none)) else((Az.f k x3).bind λt158=>(some t158))
def Bi.f (k:Nat) (l0:List Int):Option (List Int):=Bi.l0 k l0 ([]:List Int) (l0.length:Int) 0
/-! ### gr02_at: function 144 -/
def IJ.f (l0:List Int) (a1:Int):Option (Int):=if a1<0 then(some 0) else(if a1>=(l0.length:Int) then(some 0) else(if 0<=a1 then(if a1<(l0.length:Int) then(some (rd l0 a1)) else(none)) else(none)))
/-! ### gr02_Whole: function 145 -/
def CD.l0:Nat->List Int->List Int->Int->Option (List Int)
 | 0,_,_,_=>none
 | k+1,x0,x3,x4=>if x4<(x0.length:Int) then(if 0<=x4 then(if(wrap64 (x4+1))<(x0.length:Int) then(if 0<=(wrap64 (x4+1)) then(if x3.length<17592186044416 then(CD.l0 k x0 (x3++ [Go.bits .or .u64 (rd x0 x4) (IntKind.u64.wrap ((rd x0 (wrap64 (x4+1)))*4294967296))]) (wrap64 (x4+2))) else(none)) else(none)) else(if x3.length<17592186044416 then(CD.l0 k x0 (x3++ [rd x0 x4]) (wrap64 (x4+2))) else(none))) else(none)) else((Az.f k x3).bind λt170=>(some t170))
def CD.f (k:Nat) (l0:List Int):Option (List Int):=CD.l0 k l0 ([]:List Int) 0
/-! ### gr02_Sub: function 102 -/
def DL.l0:Nat->List Int->List Int->List Int->Int->Int->Int->Option (List Int)
 | 0,_,_,_,_,_,_=>none
 | k+1,x5,x6,x7,x8,X0,x17=>if x17<X0 then(if 0<=x17 then(if x17<(x5.length:Int) then((IJ.f x6 x17).bind λt180=>(if x7.length<17592186044416 then(DL.l0 k x5 x6 (x7++ [Go.bits .and .u64 (IntKind.u64.wrap ((IntKind.u64.wrap ((IntKind.u64.wrap (4294967296+(rd x5 x17)))-t180))-x8)) 4294967295]) (IntKind.u64.wrap (1-((IntKind.u64.wrap ((IntKind.u64.wrap ((IntKind.u64.wrap (4294967296+(rd x5 x17)))-t180))-x8))/4294967296))) X0 (wrap64 (x17+1))) else(none))) else(none)) else(none)) else((CD.f k x7).bind λt184=>(some t184))
def DL.f (k:Nat) (l0 l1:List Int):Option (List Int):=(Bi.f k l0).bind λt173=>((Bi.f k l1).bind λt176=>(DL.l0 k t173 t176 ([]:List Int) 0 (t173.length:Int) 0))
/-! ### gr02_Cmp: function 103 -/
def Ck.l0:Nat->List Int->List Int->Int->Option (Int)
 | 0,_,_,_=>none
 | k+1,x0,x1,x6=>if x6>=0 then((IJ.f x0 x6).bind λt187=>((IJ.f x1 x6).bind λt188=>(if t187<t188 then(some (-1)) else(if t187>t188 then(some 1) else(Ck.l0 k x0 x1 (wrap64 (x6-1))))))) else(some 0)
def Ck.f (k:Nat) (l0 l1:List Int):Option (Int):=Ck.l0 k l0 l1 (wrap64 ((mx (l0.length:Int) (l1.length:Int))-1))
/-! ### gr02_Bit: function 141 -/
def Gy.f (l0:List Int) (a1:Int):Option (Bool):=if a1>=0 then(if(wrap64 (Int.tdiv a1 64))<(l0.length:Int) then(if 0<=(wrap64 (Int.tdiv a1 64)) then(if 0<=(IntKind.u64.wrap (Int.tmod a1 64)) then(some ((Go.bits .and .u64 (shr .u64 (rd l0 (wrap64 (Int.tdiv a1 64))) (IntKind.u64.wrap (Int.tmod a1 64))) 1)==1)) else(none)) else(none)) else(some false)) else(some false)
/-! ### gr02_Even: function 156 -/
def CO.l0:Nat->List Int->Int->Option (Int)
 | 0,_,_=>none
 | k+1,x0,x3=>(Gy.f x0 x3).bind λAN0=>(if AN0=true then(some x3) else(CO.l0 k x0 (wrap64 (x3+1))))
def CO.f (k:Nat) (l0:List Int):Option (Int):=(BU.f k l0).bind λAN1=>(if AN1=0 then(some 0) else(CO.l0 k l0 0))
/-! ### gr05_Gcd: function 135 -/
mutual
def Ba.j0:Nat->List Int->List Int->Bool->Option (List Int)
 | 0,_,_,_=>none
 | k+1,x0,x1,zW=>if zW=true then(if 0<(x0.length:Int) then(if 0<(x1.length:Int) then(Ba.l0 k (rd x0 0) (rd x1 0)) else(none)) else(none)) else((CO.f k x0).bind λAN2=>((CO.f k x1).bind λAN3=>((CO.f k x0).bind λAFk=>((BC.f k x0 AFk).bind λAN4=>((CO.f k x1).bind λAN5=>((BC.f k x1 AN5).bind λAN6=>(Ba.l1 k (mn AN2 AN3) AN4 AN6)))))))
def Ba.l0:Nat->Int->Int->Option (List Int)
 | 0,_,_=>none
 | k+1,x5,x6=>if x6>0 then(if x6=0 then(none) else(Ba.l0 k x6 (Int.tmod x5 x6))) else(some (([x5]:List Int)))
def Ba.l1:Nat->Int->List Int->List Int->Option (List Int)
 | 0,_,_,_=>none
 | k+1,x7,x8,x9=>(Ck.f k x8 x9).bind λALI=>(if ALI=0 then((Aq.f k x8 x7).bind λAFl=>(some AFl)) else(if ALI<0 then((DL.f k x9 x8).bind λADc=>((CO.f k ADc).bind λAFm=>((BC.f k ADc AFm).bind λAN7=>(Ba.l1 k x7 AN7 x8)))) else((DL.f k x8 x9).bind λALJ=>((CO.f k ALJ).bind λAN8=>((BC.f k ALJ AN8).bind λAN9=>(Ba.l1 k x7 AN9 x9))))))
end
def Ba.f (k:Nat) (l0 l1:List Int):Option (List Int):=(BU.f k l0).bind λAOA=>(if AOA=0 then((Az.f k l1).bind λAOB=>(some AOB)) else((BU.f k l1).bind λAOC=>(if AOC=0 then((Az.f k l0).bind λAIO=>(some AIO)) else((BU.f k l0).bind λAOD=>(if AOD=1 then((BU.f k l1).bind λAOE=>(Ba.j0 k l0 l1 (AOE==1))) else(Ba.j0 k l0 l1 false))))))
/-! ### gr01_Len: function 142 -/
def Eh.l0:Nat->Int->Int->Option (Int)
 | 0,_,_=>none
 | k+1,x0,x3=>if x0>0 then(Eh.l0 k (x0/2) (wrap64 (x3+1))) else(some x3)
def Eh.f (k:Nat) (a0:Int):Option (Int):=Eh.l0 k a0 0
/-! ### gr02_Bits: function 101 -/
def G7.f (k:Nat) (l0:List Int):Option (Int):=(BU.f k l0).bind λt147=>(if t147=0 then(some 0) else(if 0<=(wrap64 (t147-1)) then(if(wrap64 (t147-1))<(l0.length:Int) then((Eh.f k (rd l0 (wrap64 (t147-1)))).bind λt149=>(some (wrap64 ((wrap64 ((wrap64 (64*t147))-64))+t149)))) else(none)) else(none)))
/-! ### gr04_set: function 151 -/
def CW.l0:Nat->List Int->Int->List Int->Int->Int->Option (List Int)
 | 0,_,_,_,_,_=>none
 | k+1,x0,x1,x5,Dm,UW=>if UW<Dm then(if UW<(x0.length:Int) then(if 0<=UW then(if UW=(wrap64 (Int.tdiv x1 64)) then(if 0<=(IntKind.u64.wrap (Int.tmod x1 64)) then(if x5.length<17592186044416 then(CW.l0 k x0 x1 (x5++ [Go.bits .or .u64 (rd x0 UW) (shl .u64 1 (IntKind.u64.wrap (Int.tmod x1 64)))]) Dm (wrap64 (UW+1))) else(none)) else(none)) else(if x5.length<17592186044416 then(CW.l0 k x0 x1 (x5++ [rd x0 UW]) Dm (wrap64 (UW+1))) else(none))) else(none)) else(if UW=(wrap64 (Int.tdiv x1 64)) then(if 0<=(IntKind.u64.wrap (Int.tmod x1 64)) then(if x5.length<17592186044416 then(CW.l0 k x0 x1 (x5++ [Go.bits .or .u64 0 (shl .u64 1 (IntKind.u64.wrap (Int.tmod x1 64)))]) Dm (wrap64 (UW+1))) else(none)) else(none)) else(if x5.length<17592186044416 then(CW.l0 k x0 x1 (x5++ [0]) Dm (wrap64 (UW+1))) else(none)))) else(some x5)
def CW.f (k:Nat) (l0:List Int) (a1:Int):Option (List Int):=CW.l0 k l0 a1 ([]:List Int) (mx (l0.length:Int) (wrap64 ((wrap64 (Int.tdiv a1 64))+1))) 0
/-! ### gr04_Div: function 139 -/
mutual
def Bf.j0:Nat->List Int->List Int->List Int->Bool->Option (List Int × List Int)
 | 0,_,_,_,_=>none
 | k+1,x0,x1,x6,uw=>if uw=true then(if 0<(x0.length:Int) then(if 0<(x1.length:Int) then(if(rd x1 0)=0 then(none) else((Az.f k (([IntKind.u64.wrap (Int.tdiv (rd x0 0) (rd x1 0))]:List Int))).bind λAIQ=>((Az.f k (([Int.tmod (rd x0 0) (rd x1 0)]:List Int))).bind λAOF=>(some (AIQ,AOF))))) else(none)) else(none)) else((G7.f k x0).bind λAFn=>((G7.f k x1).bind λAFo=>((BC.f k x0 (mx 0 (wrap64 ((wrap64 (AFn-AFo))+1)))).bind λAIR=>(Bf.l0 k x0 x1 x6 AIR (wrap64 ((mx 0 (wrap64 ((wrap64 (AFn-AFo))+1)))-1))))))
def Bf.l0:Nat->List Int->List Int->List Int->List Int->Int->Option (List Int × List Int)
 | 0,_,_,_,_,_=>none
 | k+1,x0,x1,x6,x7,Ik=>if Ik>=0 then((Aq.f k x7 1).bind λALK=>((Gy.f x0 Ik).bind λAIS=>(if AIS=true then((CW.f k ALK 0).bind λAOG=>(Bf.j2 k x0 x1 x6 AOG Ik)) else(Bf.j2 k x0 x1 x6 ALK Ik)))) else((Az.f k x6).bind λAOH=>((Az.f k x7).bind λAOI=>(some (AOH,AOI))))
def Bf.j2:Nat->List Int->List Int->List Int->List Int->Int->Option (List Int × List Int)
 | 0,_,_,_,_,_=>none
 | k+1,x0,x1,x6,x7,Ik=>(Ck.f k x7 x1).bind λAOJ=>(if AOJ>=0 then((DL.f k x7 x1).bind λAOK=>((CW.f k x6 Ik).bind λAOL=>(Bf.l0 k x0 x1 AOL AOK (wrap64 (Ik-1))))) else(Bf.l0 k x0 x1 x6 x7 (wrap64 (Ik-1))))
end
def Bf.f (k:Nat) (l0 l1:List Int):Option (List Int × List Int):=(BU.f k l0).bind λAOM=>(if AOM=1 then((BU.f k l1).bind λAIP=>(Bf.j0 k l0 l1 ([]:List Int) (AIP==1))) else(Bf.j0 k l0 l1 ([]:List Int) false))
/-! ### gr05_Part: function 136 -/
def JR.f (k:Nat) (l0 l1:List Int):Option (List Int):=(BU.f k l1).bind λAIT=>(if AIT=0 then(some ([]:List Int)) else((Ck.f k l1 (([1]:List Int))).bind λAON=>(if AON=0 then((Az.f k l0).bind λAOO=>(some AOO)) else((Bf.f k l0 l1).bind λALL=>(some ALL.1)))))
/-! ### gr07_Make: function 81 -/
def FQ.f (k:Nat) (a0:Bool) (l1 l2:List Int):Option (Bool × List Int × List Int):=(BU.f k l1).bind λAOP=>(if AOP=0 then(some (false,([]:List Int),(([1]:List Int)))) else((Ba.f k l1 l2).bind λALM=>((JR.f k l1 ALM).bind λAOQ=>((JR.f k l2 ALM).bind λAOR=>(some (a0,AOQ,AOR))))))
/-! ### gr07_Of: function 119 -/
def Kh.f (k:Nat) (a0:Int):Option (Bool × List Int × List Int):=if a0<0 then((FQ.f k true (([IntKind.u64.wrap (-(IntKind.u64.wrap (a0)))]:List Int)) (([1]:List Int))).bind λADy=>(some (ADy.1,ADy.2.1,ADy.2.2))) else((FQ.f k false (([IntKind.u64.wrap (a0)]:List Int)) (([1]:List Int))).bind λADz=>(some (ADz.1,ADz.2.1,ADz.2.2)))
/-! ### gr07_Words: function 109 -/
def Cs.l0:Nat->List Int->List Int->Int->Int->Option (Bool)
 | 0,_,_,_,_=>none
 | k+1,x0,x1,iq,Dm=>if Dm<iq then(if 0<=Dm then(if Dm<(x0.length:Int) then(if Dm<(x1.length:Int) then(if(rd x0 Dm)=(rd x1 Dm) then(Cs.l0 k x0 x1 iq (wrap64 (Dm+1))) else(some false)) else(none)) else(none)) else(none)) else(some true)
def Cs.f (k:Nat) (l0 l1:List Int):Option (Bool):=if(l0.length:Int)=(l1.length:Int) then(Cs.l0 k l0 l1 (l0.length:Int) 0) else(some false)
/-! ### gr07_Same: function 61 -/
def G1.f (k:Nat) (ED:Bool) (GL GR:List Int) (D7:Bool) (Wx VR:List Int):Option (Bool):=if(ED==D7)=true then((Cs.f k GL Wx).bind λAOS=>(if AOS=true then((Cs.f k GR VR).bind λAOT=>(some AOT)) else(some false))) else(some false)
/-! ### gradineplain_Bools: function 43 -/
def Av.l0:Nat->List Bool->List Bool->Int->Int->Option (Bool)
 | 0,_,_,_,_=>none
 | k+1,x0,x1,iq,Dm=>if Dm<iq then(if 0<=Dm then(if Dm<(x0.length:Int) then(if Dm<(x1.length:Int) then(if((AER false x0 Dm) !=(AER false x1 Dm))=true then(some false) else(Av.l0 k x0 x1 iq (wrap64 (Dm+1)))) else(none)) else(none)) else(none)) else(some true)
def Av.f (k:Nat) (l0 l1:List Bool):Option (Bool):=if(l0.length:Int)=(l1.length:Int) then(Av.l0 k l0 l1 (l0.length:Int) 0) else(some false)
/-! ### gradineplain_Long: function 130 -/
def DD.f (ED:Bool) (GL GR:List Int) (a1:Int):Option (Bool):=if(GL.length:Int)>a1 then(some true) else(some (decide ((GR.length:Int)>a1)))
/-! ### gradineplain_Wide: function by hand -/
def BG.l0:Nat->(List ((Bool × (List Int) × List Int) × Int × Int))->Int->Int->Int->Option (Bool)
 | 0,_,_,_,_=>none
 | k+1,x0,x1,x7,x8=>if x8<x7 then(if 0<=x8 then(if x8<(x0.length:Int) then((DD.f (Bz x0 x8).1.1 (Bz x0 x8).1.2.1 (Bz x0 x8).1.2.2 x1).bind λt1=>(if t1=true then(some true) else(BG.l0 k x0 x1 x7 (wrap64 (x8+1))))) else none) else none) else(some false)
def BG.f (k:Nat) (a0:List ((Bool × (List Int) × List Int) × Int × Int)) (a1:Int):Option (Bool):=BG.l0 k a0 a1 (a0.length:Int) 0
/-! ### gr03_Mul: function 107 -/
mutual
def CB.l0:Nat->List Int->List Int->List Int->Int->Int->Option (List Int)
 | 0,_,_,_,_,_=>none
 | k+1,x5,x6,x7,Ms,x24=>if x24<Ms then(CB.l1 k x5 x6 x7 x24 0 Ms x24 (x6.length:Int) 0) else((CD.f k x7).bind λAOU=>(some AOU))
def CB.l1:Nat->List Int->List Int->List Int->Int->Int->Int->Int->Int->Int->Option (List Int)
 | 0,_,_,_,_,_,_,_,_,_=>none
 | k+1,x5,x6,x7,x8,x9,Ms,x24,zW,gy=>if gy<zW then(if 0<=x8 then(if x8<(x5.length:Int) then(if 0<=gy then(if gy<(x6.length:Int) then(if 0<=(wrap64 (x8+gy)) then(if(wrap64 (x8+gy))<(x7.length:Int) then(CB.l1 k x5 x6 (x7.set ((wrap64 (x8+gy)):Int).toNat (Go.bits .and .u64 (IntKind.u64.wrap ((IntKind.u64.wrap (x9+(IntKind.u64.wrap ((rd x5 x8)*(rd x6 gy)))))+(rd x7 (wrap64 (x8+gy))))) 4294967295)) x8 ((IntKind.u64.wrap ((IntKind.u64.wrap (x9+(IntKind.u64.wrap ((rd x5 x8)*(rd x6 gy)))))+(rd x7 (wrap64 (x8+gy)))))/4294967296) Ms x24 zW (wrap64 (gy+1))) else(none)) else(none)) else(none)) else(none)) else(none)) else(none)) else(if 0<=(wrap64 (x8+(x6.length:Int))) then(if(wrap64 (x8+(x6.length:Int)))<(x7.length:Int) then(CB.l0 k x5 x6 (x7.set ((wrap64 (x8+(x6.length:Int))):Int).toNat x9) Ms (wrap64 (x24+1))) else(none)) else(none))
end
def CB.f (k:Nat) (l0 l1:List Int):Option (List Int):=(Bi.f k l0).bind λxH=>((Bi.f k l1).bind λAFr=>(if 0<=(wrap64 ((wrap64 ((xH.length:Int)+(AFr.length:Int)))+1)) then(if(wrap64 ((wrap64 ((xH.length:Int)+(AFr.length:Int)))+1):Int).toNat<=35184372088832 then(CB.l0 k xH AFr (List.replicate (wrap64 ((wrap64 ((xH.length:Int)+(AFr.length:Int)))+1):Int).toNat 0) (xH.length:Int) 0) else(none)) else(none)))
/-! ### gr07_Div: function 111 -/
def Kw.f (k:Nat) (ED:Bool) (GL GR:List Int) (D7:Bool) (Wx VR:List Int):Option (Bool × List Int × List Int):=(CB.f k GL VR).bind λAOV=>((CB.f k GR Wx).bind λAOW=>((FQ.f k (ED !=D7) AOV AOW).bind λAD0=>(some (AD0.1,AD0.2.1,AD0.2.2))))
/-! ### gr02_Add: function 108 -/
def Ir.l0:Nat->List Int->List Int->List Int->Int->Int->Int->Option (List Int)
 | 0,_,_,_,_,_,_=>none
 | k+1,x5,x6,x7,x8,ux,ZA=>if ZA<ux then((IJ.f x5 ZA).bind λt195=>((IJ.f x6 ZA).bind λt196=>(if x7.length<17592186044416 then(Ir.l0 k x5 x6 (x7++ [Go.bits .and .u64 (IntKind.u64.wrap ((IntKind.u64.wrap (x8+t195))+t196)) 4294967295]) ((IntKind.u64.wrap ((IntKind.u64.wrap (x8+t195))+t196))/4294967296) ux (wrap64 (ZA+1))) else(none)))) else((CD.f k x7).bind λt200=>(some t200))
def Ir.f (k:Nat) (l0 l1:List Int):Option (List Int):=(Bi.f k l0).bind λt189=>((Bi.f k l1).bind λt192=>(Ir.l0 k t189 t192 ([]:List Int) 0 (wrap64 ((mx (t189.length:Int) (t192.length:Int))+1)) 0))
/-! ### gr04_Root: function 235 -/
def IK.l0:Nat->List Int->List Int->Int->Option (List Int)
 | 0,_,_,_=>none
 | k+1,x0,x3,x4=>if x4>=0 then((CW.f k x3 x4).bind λAD1=>((CB.f k AD1 AD1).bind λALN=>((Ck.f k ALN x0).bind λALO=>(if ALO<=0 then(IK.l0 k x0 AD1 (wrap64 (x4-1))) else(IK.l0 k x0 x3 (wrap64 (x4-1))))))) else((Az.f k x3).bind λALP=>(some ALP))
def IK.f (k:Nat) (l0:List Int):Option (List Int):=(G7.f k l0).bind λALQ=>(IK.l0 k l0 ([]:List Int) (wrap64 (Int.tdiv (wrap64 (ALQ+1)) 2)))
/-! ### gr09_Field: function 88 -/
def MG.f (a0:Int):Option (Int):=some (wrap64 (Go.bits .and .u64 (a0/4503599627370496) 2047))
/-! ### gr09_Signed: function 91 -/
def GV.f (a0:Bool) (a1:Int):Option (Int):=if a0=true then(some (IntKind.u64.wrap (a1+9223372036854775808))) else(some a1)
/-! ### gr09_Inf: function 35 -/
def Rf.f (a0:Bool):Option (Int):=(GV.f a0 9218868437227405312).bind λt104=>(some t104)
/-! ### gr09_Rest: function 96 -/
def L7.f (a0:Int):Option (Int):=some (Go.bits .and .u64 a0 4503599627370495)
/-! ### gr09_Kind: function 40 -/
def YI.f (a0:Int):Option (Int):=(MG.f a0).bind λAOX=>(if AOX=2047 then((L7.f a0).bind λAOY=>(if AOY=0 then(some 3) else(some 4))) else((MG.f a0).bind λAOZ=>(if AOZ>0 then(some 2) else((L7.f a0).bind λAOa=>(if AOa>0 then(some 1) else(some 0))))))
/-! ### gr09_Make: function 31 -/
mutual
def Bl.j0:Nat->Bool->Int->Int->Bool->Option (Int × Bool)
 | 0,_,_,_,_=>none
 | k+1,x0,x1,x2,x17=>if x17=true then(some (0,false)) else(Bl.l0 k x0 x1 x2)
def Bl.l0:Nat->Bool->Int->Int->Option (Int × Bool)
 | 0,_,_,_=>none
 | k+1,x0,x1,x2=>if(Int.tmod x1 2)=0 then(Bl.l0 k x0 (IntKind.u64.wrap (Int.tdiv x1 2)) (wrap64 (x2+1))) else(if x1>=9007199254740992 then(Bl.j2 k x0 x1 x2 true) else(Bl.j2 k x0 x1 x2 (decide (x2<(-1074)))))
def Bl.j2:Nat->Bool->Int->Int->Bool->Option (Int × Bool)
 | 0,_,_,_,_=>none
 | k+1,x0,x1,x2,s8=>if s8=true then(some (0,false)) else(Bl.l1 k x0 x1 x2)
def Bl.j4:Nat->Bool->Int->Int->Option (Int × Bool)
 | 0,_,_,_=>none
 | k+1,x0,x1,x2=>if x1<4503599627370496 then((GV.f x0 x1).bind λt102=>(some (t102,true))) else(if x2>971 then(some (0,false)) else((GV.f x0 (IntKind.u64.wrap ((IntKind.u64.wrap ((IntKind.u64.wrap ((IntKind.u64.wrap (wrap64 (x2+1075)))*4503599627370496))+x1))-4503599627370496))).bind λt103=>(some (t103,true))))
def Bl.l1:Nat->Bool->Int->Int->Option (Int × Bool)
 | 0,_,_,_=>none
 | k+1,x0,x1,x2=>if x1<4503599627370496 then(if x2>(-1074) then(Bl.l1 k x0 (IntKind.u64.wrap (x1*2)) (wrap64 (x2-1))) else(Bl.j4 k x0 x1 x2)) else(Bl.j4 k x0 x1 x2)
end
def Bl.f (k:Nat) (a0:Bool) (a1 a2:Int):Option (Int × Bool):=if a1=0 then((GV.f a0 0).bind λt101=>(some (t101,true))) else(if a2<(-1200) then(Bl.j0 k a0 a1 a2 true) else(Bl.j0 k a0 a1 a2 (decide (a2>1200))))
/-! ### gr09_Nan: function 33 -/
def r9.f  :Option (Int):=some 9221120237041090560
/-! ### gr09_Neg: function 27 -/
def dw.f (a0:Int):Option (Bool):=some ((a0/9223372036854775808)==1)
/-! ### gr09_Parts: function 42 -/
def VH.f (a0:Int):Option (Int × Int):=(MG.f a0).bind λAOb=>(if AOb=0 then((L7.f a0).bind λAOc=>(some (AOc,(-1074)))) else((L7.f a0).bind λAOd=>((MG.f a0).bind λAOe=>(some (IntKind.u64.wrap (AOd+4503599627370496),wrap64 (AOe-1075))))))
/-! ### gr10_Half: function 95 -/
def kE.f (k:Nat) (l0:List Int):Option (List Int):=(Aq.f k l0 1).bind λAOf=>((Ir.f k AOf (([1]:List Int))).bind λAOg=>(some AOg))
/-! ### gr10_Of: function 94 -/
mutual
def F7.j0:Nat->Bool->Int->List Int->Option (Int)
 | 0,_,_,_=>none
 | k+1,x0,x8,x9=>if(x9.length:Int)>0 then(if 0<(x9.length:Int) then(F7.j1 k x0 x8 (rd x9 0)) else(none)) else(F7.j1 k x0 x8 0)
def F7.j1:Nat->Bool->Int->Int->Option (Int)
 | 0,_,_,_=>none
 | k+1,x0,x8,iq=>(Bl.f k x0 iq x8).bind λAGw=>(if AGw.2=true then(some AGw.1) else((Rf.f x0).bind λAOh=>(some AOh)))
end
def F7.f (k:Nat) (a0:Bool) (l1:List Int) (a2:Int):Option (Int):=(Az.f k l1).bind λt204=>(if(t204.length:Int)=0 then((GV.f a0 0).bind λt207=>(some t207)) else((G7.f k t204).bind λt208=>(if a2>2000 then((Rf.f a0).bind λt209=>(some t209)) else(if a2<(wrap64 ((-1200)-t208)) then((GV.f a0 0).bind λt210=>(some t210)) else(if(mx (wrap64 ((wrap64 (t208+a2))-53)) (-1074))>971 then((Rf.f a0).bind λt211=>(some t211)) else((Aq.f k t204 (wrap64 (a2-(mx (wrap64 ((wrap64 (t208+a2))-53)) (-1074))))).bind λt212=>(if a2<(mx (wrap64 ((wrap64 (t208+a2))-53)) (-1074)) then((BC.f k t204 (wrap64 ((mx (wrap64 ((wrap64 (t208+a2))-53)) (-1074))-a2))).bind λt215=>((Aq.f k t215 (wrap64 ((mx (wrap64 ((wrap64 (t208+a2))-53)) (-1074))-a2))).bind λt218=>((DL.f k t204 t218).bind λt221=>((Aq.f k t221 1).bind λt224=>((Aq.f k (([1]:List Int)) (wrap64 ((mx (wrap64 ((wrap64 (t208+a2))-53)) (-1074))-a2))).bind λt230=>((Ck.f k t224 t230).bind λALR=>(if ALR>0 then((Ir.f k t215 (([1]:List Int))).bind λAOi=>(F7.j0 k a0 (mx (wrap64 ((wrap64 (t208+a2))-53)) (-1074)) AOi)) else(if ALR=0 then((Gy.f t215 0).bind λAOj=>(if AOj=true then((Ir.f k t215 (([1]:List Int))).bind λAOl=>(F7.j0 k a0 (mx (wrap64 ((wrap64 (t208+a2))-53)) (-1074)) AOl)) else(F7.j0 k a0 (mx (wrap64 ((wrap64 (t208+a2))-53)) (-1074)) t215))) else(F7.j0 k a0 (mx (wrap64 ((wrap64 (t208+a2))-53)) (-1074)) t215))))))))) else(F7.j0 k a0 (mx (wrap64 ((wrap64 (t208+a2))-53)) (-1074)) t212))))))))
/-! ### gr10_More: function 37 -/
def kF.f (k:Nat) (a0:Bool) (l1:List Int) (a2:Int) (a3:Bool):Option (Int):=if a3=true then((kE.f k l1).bind λAOm=>((F7.f k a0 AOm ((mn (mx a2 (-1099511627776)) 1099511627776)-1)).bind λAOn=>(some AOn))) else((F7.f k a0 l1 (mn (mx a2 (-1099511627776)) 1099511627776)).bind λAOo=>(some AOo))
/-! ### gr12_Sqrt: function 164 -/
mutual
def DH.j0:Nat->Int->Int->Bool->Option (Int)
 | 0,_,_,_=>none
 | k+1,x0,x3,ux=>if ux=true then((r9.f).bind λALS=>(some ALS)) else(if x3=3 then(some x0) else((VH.f x0).bind λfE=>(if(Int.tmod (wrap64 (fE.2-160)) 2)=0 then(DH.j1 k fE.1 fE.2 160) else(DH.j1 k fE.1 fE.2 (160+1)))))
def DH.j1:Nat->Int->Int->Int->Option (Int)
 | 0,_,_,_=>none
 | k+1,x4,x5,x6=>(Aq.f k (([x4]:List Int)) x6).bind λAGx=>((IK.f k AGx).bind λAD2=>((CB.f k AD2 AD2).bind λALT=>((Ck.f k ALT AGx).bind λALU=>((kF.f k false AD2 (wrap64 (Int.tdiv (wrap64 (x5-x6)) 2)) (ALU !=0)).bind λALV=>(some ALV)))))
end
def DH.f (k:Nat) (a0:Int):Option (Int):=(YI.f a0).bind λzu=>(if zu=0 then(some a0) else(if zu=4 then(DH.j0 k a0 zu true) else((dw.f a0).bind λALW=>(DH.j0 k a0 zu ALW))))
end Go.Proofs.YtjocbnjpjihpnaaGreat.P
