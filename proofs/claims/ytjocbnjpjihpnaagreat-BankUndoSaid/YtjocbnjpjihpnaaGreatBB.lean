/- Functions of one package as Lean functions, and walks: written by a program for this claim. -/
import Derived.Test.YtjocbnjpjihpnaaGreatFbase
import Derived.Test.YtjocbnjpjihpnaaGreatFsxbase
namespace Go.Proofs.YtjocbnjpjihpnaaGreat.P
open Go.RowKit Go.Proofs.YtjocbnjpjihpnaaGreatW.AD Go.Proofs.YtjocbnjpjihpnaaGreatW.AR Go.Proofs.YtjocbnjpjihpnaaGreatW.AY
attribute [local go_sem] Zd Ze uG uH eY eZ mN mO
set_option linter.unusedVariables false
set_option linter.unusedSimpArgs false
/-! ### bank_Bank_fails: function by hand -/
def BL.f (k:Nat) (Af Al:Int) (Ai:List (Int × Int × Int × Bool × (List Int) × List Int)) (Ar Ao:List Bool) (Ap Au:Int) (Aw:Bool) (Av:Int):Option (Bool × Int × Int × List (Int × Int × Int × Bool × (List Int) × List Int) × List Bool × List Bool × Int × Int × Bool × Int):=some ((!(Av==0)),Af,Al,Ai,Ar,Ao,Ap,Au,Aw,Av)
/-! ### bank_Bank_Fail: function by hand -/
def A7.f (k:Nat) (Af Al:Int) (Ai:List (Int × Int × Int × Bool × (List Int) × List Int)) (Ar Ao:List Bool) (Ap Au:Int) (Aw:Bool) (Av a1:Int):Option (Int × Int × List (Int × Int × Int × Bool × (List Int) × List Int) × List Bool × List Bool × Int × Int × Bool × Int):=if Av=0 then(some (Af,Al,Ai,Ar,Ao,Ap,Au,Aw,a1)) else(some (Af,Al,Ai,Ar,Ao,Ap,Au,Aw,Av))
/-! ### bank_Bank_write: function by hand -/
def Bj.f (k:Nat) (Af Al:Int) (Ai:List (Int × Int × Int × Bool × (List Int) × List Int)) (Ar Ao:List Bool) (Ap Au:Int) (Aw:Bool) (Av ED Hi GJ:Int) (Ix:Bool) (Iy ADA:List Int):Option (Bool × List Int × List Int × Int × Int × Int × Int × List (Int × Int × Int × Bool × (List Int) × List Int) × List Bool × List Bool × Int × Int × Bool × Int):=if(Ai.length:Int)>=65536 then((A7.f k Af Al Ai Ar Ao Ap Au Aw Av 13).bind λAS=>(some (false,([]:List Int),([]:List Int),0,0,AS.1,AS.2.1,AS.2.2.1,AS.2.2.2.1,AS.2.2.2.2.1,AS.2.2.2.2.2.1,AS.2.2.2.2.2.2.1,AS.2.2.2.2.2.2.2.1,AS.2.2.2.2.2.2.2.2))) else(if(Ai.length+1)*80<=140737488355328 then(some (false,([]:List Int),([]:List Int),0,(wrap64 (((Ai++ [(ED,(Hi,(GJ,(Ix,(Iy,ADA)))))]).length:Int)-1)),Af,Al,(Ai++ [(ED,(Hi,(GJ,(Ix,(Iy,ADA)))))]),Ar,Ao,Ap,Au,Aw,Av)) else none)
/-! ### bank_Bank_there: function by hand -/
def Bs.f (k:Nat) (Af Al:Int) (Ai:List (Int × Int × Int × Bool × (List Int) × List Int)) (Ar Ao:List Bool) (Ap Au:Int) (Aw:Bool) (Av:Int) (ED:Bool) (Hi GJ:List Int) (Ix Iy:Int):Option (Bool × Int × Int × List (Int × Int × Int × Bool × (List Int) × List Int) × List Bool × List Bool × Int × Int × Bool × Int):=if Iy<0 then((A7.f k Af Al Ai Ar Ao Ap Au Aw Av 1).bind λAS=>(some (false,AS.1,AS.2.1,AS.2.2.1,AS.2.2.2.1,AS.2.2.2.2.1,AS.2.2.2.2.2.1,AS.2.2.2.2.2.2.1,AS.2.2.2.2.2.2.2.1,AS.2.2.2.2.2.2.2.2))) else(if Iy>=(Ai.length:Int) then((A7.f k Af Al Ai Ar Ao Ap Au Aw Av 1).bind λCZ=>(some (false,CZ.1,CZ.2.1,CZ.2.2.1,CZ.2.2.2.1,CZ.2.2.2.2.1,CZ.2.2.2.2.2.1,CZ.2.2.2.2.2.2.1,CZ.2.2.2.2.2.2.2.1,CZ.2.2.2.2.2.2.2.2))) else(some (true,Af,Al,Ai,Ar,Ao,Ap,Au,Aw,Av)))
/-! ### nat_size: function 192 -/
def BR.l0:Nat->List Int->Int->Option (Int)
 | 0,_,_=>none
 | k+1,x0,x3=>if x3>0 then(if 0<=(wrap64 (x3-1)) then(if(wrap64 (x3-1))<(x0.length:Int) then(if(rd x0 (wrap64 (x3-1)))=0 then(BR.l0 k x0 (wrap64 (x3-1))) else(some x3)) else(none)) else(none)) else(some x3)
def BR.f (k:Nat) (l0:List Int):Option (Int):=BR.l0 k l0 (l0.length:Int)
set_option maxHeartbeats 8000000 in
set_option maxRecDepth 100000 in
theorem BR.calls (k:Nat) (A0:Option Addr) (c0:Nat) (l0:List Int) (r:Int) (w:World) (Uu:Kd.C (Kd.int .u64) w A0 l0.length l0) (hc0:l0.length<=c0) (h:BR.f k l0=some r) :
 Calls Tryz.prog 192 #[.slice A0 l0.length c0] w λe w'=>e= .returned (.int .i64 r)/\Fx w w':=by
 have HR0:=Bc.mk Uu;have HC0:=Bc.mk hc0;clear Uu hc0;have H:(BR.l0 k l0 (l0.length:Int))=some r:=h;clear h;have H':=Bc.mk H;clear H
 go_enter Tryz.func192,Tryz.ntmps192
 go_wp2
 go_loopg [3] k (λkq v3 w'=> ∃(jx:Int),v3= .int .i64 jx/\Bc (BR.l0 kq l0 jx=some r)/\Bc (kq<=k)/\Fx w w')
 case atStart=>exact⟨((l0.length:Int)),(by first | rfl | (simp;done) | (simp[*];done)),H',⟨ANS _⟩,by repeat (first | exact Fx.refl _ | apply Fx.step)⟩
 case round =>
  clear H'
  try clear c1
  obtain⟨jx,rfl,HA,HK1,⟨m1,rfl⟩⟩:=hrel;cases gk with
  | zero=>exact absurd HA.out (by simp[BR.l0])
  | succ k1 =>
    have H:=HA.out;clear HA;simp only[BR.l0] at H;by_cases c2:jx>0
    · rw[if_pos c2] at H
      have AJm:decide (0<jx)=true:=decide_eq_true c2;clear c2;obtain⟨Pz,bN⟩ : ∃j_:Int,(wrap64 (jx-1))=j_:=⟨_,rfl⟩
      replace H:(if 0<=(Pz) then(if(Pz)<(l0.length:Int) then(if(rd l0 (Pz))=0 then(BR.l0 k1 l0 Pz) else(some jx)) else(none)) else(none))=some r:=by first | (rw[bN] at H;exact H) | (simp only[bN] at H ⊢;exact H)
      have AMX:(IntKind.i64.wrap (jx-1))=Pz:=(mJ _).trans bN;by_cases c4:0<=(Pz)
      · rw[if_pos c4] at H
        have AJn:decide (0<=(Pz))=true:=decide_eq_true c4;clear c4;by_cases c5:(Pz)<(l0.length:Int)
        · rw[if_pos c5] at H
          have AG2:decide ((Pz)<(l0.length:Int))=true:=decide_eq_true c5;clear c5;by_cases c6:(rd l0 (Pz))=0
          · rw[if_pos c6] at H
            have AFg:((rd l0 (Pz))==0)=true:=beq_iff_eq.mpr c6;have AFh:((rd l0 (Pz)) !=0)=false:=bne_eq_false_iff_eq.mpr c6;clear c6;have H':=Bc.mk H;clear H;have sK:0<=((Pz):Int):=of_decide_eq_true (by first | (with_reducible assumption) | assumption);have sL:(Pz)<(l0.length:Int):=of_decide_eq_true (by first | (with_reducible assumption) | assumption);obtain⟨AG3,AFi,ADB⟩:=Kd.qj HR0.out (Pz) sK sL;cases AFi
            replace sK:=eq_true sK
            replace sL:=eq_true sL
            go_wp2
            go_roundg k1
            case measure=>have:=HK1.out;omega
            case rel=>exact⟨(Pz),(by first | rfl | (simp;done) | (simp only[<-bN]<;>(first | rfl | simp)) | (simp[*];done)),H',⟨by have:=HK1.out;omega⟩,by repeat (first | exact Fx.refl _ | apply Fx.step)⟩
          · rw[if_neg c6] at H
            have AFg:((rd l0 (Pz))==0)=false:=beq_eq_false_iff_ne.mpr c6;have AFh:((rd l0 (Pz)) !=0)=true:=bne_iff_ne.mpr c6;obtain rfl:=APN H;have sK:0<=((Pz):Int):=of_decide_eq_true (by first | (with_reducible assumption) | assumption);have sL:(Pz)<(l0.length:Int):=of_decide_eq_true (by first | (with_reducible assumption) | assumption);obtain⟨AG3,AFi,ADB⟩:=Kd.qj HR0.out (Pz) sK sL;cases AFi
            replace sK:=eq_true sK
            replace sL:=eq_true sL
            go_wp2
            go_ret
            exact⟨by first | rfl | (simp;done) | (simp only[<-bN]<;>(first | rfl | simp)) | (simp[*];done),by repeat (first | exact Fx.refl _ | apply Fx.step)⟩
        · rw[if_neg c5] at H
          exact absurd H (by simp)
      · rw[if_neg c4] at H
        exact absurd H (by simp)
    · rw[if_neg c2] at H
      have AJm:decide (0<jx)=false:=decide_eq_false c2;clear c2;obtain rfl:=APN H
      go_wp2
      go_ret
      exact⟨by first | rfl | (simp;done) | (simp[*];done),by repeat (first | exact Fx.refl _ | apply Fx.step)⟩
/-! ### nat_Trim: function 187 -/
def Ah.f (k:Nat) (l0:List Int):Option (List Int):=(some (([]:List Int):List Int)).bind λWv=>((BR.f k l0).bind λt117=>(if 0<=t117 then(if t117<=(l0.length:Int) then(if Wv.length+(l0.take (t117:Int).toNat).length<17592186044416 then(some (Wv++(l0.take (t117:Int).toNat))) else(none)) else(none)) else(none)))
set_option maxHeartbeats 8000000 in
set_option maxRecDepth 100000 in
theorem Ah.calls (k:Nat) (A0:Option Addr) (c0:Nat) (l0 r:List Int) (w:World) (Uu:Kd.C (Kd.int .u64) w A0 l0.length l0) (hc0:l0.length<=c0) (h:Ah.f k l0=some r) :
 Calls Tryz.prog 187 #[.slice A0 l0.length c0] w λe w'=> ∃v0_:Value,e= .returned (v0_)/\Kd.R (Kd.int .u64) 73 w' w.heap.size (λ_=>True) v0_ r/\Below w.heap.size w w':=by
 have HR0:=Bc.mk Uu;have HC0:=Bc.mk hc0;clear Uu hc0;have HB:=Bc.mk (Below.refl w.heap.size w);have H:((some (([]:List Int):List Int)).bind λWv=>((BR.f k l0).bind λt117=>(if 0<=t117 then(if t117<=(l0.length:Int) then(if Wv.length+(l0.take (t117:Int).toNat).length<17592186044416 then(some (Wv++(l0.take (t117:Int).toNat))) else(none)) else(none)) else(none))))=some r:=h;clear h;obtain⟨Wv,oI⟩ : ∃y_:List Int,y_=(([]:List Int)):=⟨_,rfl⟩
 replace H:((BR.f k l0).bind λt117=>(if 0<=t117 then(if t117<=(l0.length:Int) then(if Wv.length+(l0.take (t117:Int).toNat).length<17592186044416 then(some (Wv++(l0.take (t117:Int).toNat))) else(none)) else(none)) else(none)))=some r:=by first | (rw[oI];with_reducible exact H) | (have jy:=(AOO _ _).symm.trans H;rw[oI];with_reducible exact jy) | (have jy:=(AOO _ _).symm.trans H;with_reducible exact jy) | with_reducible exact H | (rw[oI];exact H) | exact H
 have ADq:=Bc.mk oI;clear oI
 replace H:=AOn.mp H
 obtain⟨t117,A20,H⟩:=H
 replace H:(if 0<=t117 then(if t117<=(l0.length:Int) then(if Wv.length+(l0.take (t117:Int).toNat).length<17592186044416 then(some (Wv++(l0.take (t117:Int).toNat))) else(none)) else(none)) else(none))=some r:=H
 have A2:=Bc.mk A20;clear A20;by_cases c3:0<=t117
 · rw[if_pos c3] at H
   have AMt:=eq_true c3;have AMu:decide (0<=t117)=true:=decide_eq_true c3;clear c3;by_cases c4:t117<=(l0.length:Int)
   · rw[if_pos c4] at H
     have AJn:=eq_true c4;have AMv:decide (t117<=(l0.length:Int))=true:=decide_eq_true c4;clear c4;by_cases c5:Wv.length+(l0.take (t117:Int).toNat).length<17592186044416
     · rw[if_pos c5] at H
       have AJo:=Bc.mk c5;clear c5;obtain⟨AJp,oJ⟩ : ∃y_:List Int,y_=(Wv++(l0.take (t117:Int).toNat)):=⟨_,rfl⟩
       replace H:(some AJp)=some r:=by first | (rw[oJ];with_reducible exact H) | (have jy:=(AOO _ _).symm.trans H;rw[oJ];with_reducible exact jy) | (have jy:=(AOO _ _).symm.trans H;with_reducible exact jy) | with_reducible exact H | (rw[oJ];exact H) | exact H
       have AG4:=Bc.mk oJ;clear oJ;obtain rfl:=APN H
       go_enter Tryz.func187,Tryz.ntmps187
       go_wp2_with (first | ((with_reducible refine mH (N:=3) rfl ?_);refine Kd.AGA (Kd.int .u64) _ 73 ?hg (N:=3) ?hd (xs:=([]:List Int)) (inner:= []) (ok:=λ_=>True) (TZ:=λ_=>True) ?hr ?hp (λ_ hk=>hk) trivial (Below.refl _ _) (ANS _) (by simp) ?_;(case hd=>rfl);(case hg=>rfl);(case hr=>first | (go_simp;done) | (go_simp;rfl));(case hp=>exact(Bn.none _ _));intro AJq w6 ho7 hb hg_ AA0;clear hg_ AA0;(first | rw[<-ADq.out] at ho7 | (simp only[Int.reduceToNat] at ho7;rw[<-ADq.out] at ho7));have oK:=Bc.mk (Kd.Y4 ho7 (JN (by repeat (first | (with_reducible first | exact HB.out | apply BG | apply Am | apply Bl) | exact HB.out))));have oL:=Bc.mk (Ta (by repeat (first | (with_reducible first | exact HB.out | apply BG | apply Am | apply Bl) | exact HB.out)) hb);clear HB;have ADr:=oK;have HB:=oL;clear oK oL;clear hb ho7) | ((with_reducible refine XQ (f:=192) rfl ?_);refine yV (some 6) rfl rfl Tryz.func192 (by kernel_rfl) rfl #[.slice A0 l0.length c0] rfl (by(try simp only[AP0,ANx,AQG]);first | done | rfl | (simp only[ANo,ANO];rfl) | (simp only[*];done)) ?_;(with_reducible refine(BR.calls k _ _ l0 t117 _ ?AA1 ?AA2 A2.out).mono ?_);(case AA1=>repeat (first | exact(Kd.N0 HR0.out HB.out) | (with_reducible refine Kd.US ?_ _) | (with_reducible refine Kd.UT ?_ _) | (with_reducible refine Kd.ZZ ?_)));(case AA2=>exact HC0.out);rintro e w' ⟨rfl,⟨nd,rfl⟩⟩;refine⟨_,rfl, ?_⟩;obtain⟨i08,AG5,_,AG6,_⟩:=info_parts aK;obtain⟨AMY,hA8,hC8⟩:=dL (P:=Tryz.prog) (Value.int .u64) 0 43 73 .i64 Tryz.underlying43 AG5 AG6 A0 c0 l0 t117 (of_decide_eq_true (by first | (with_reducible assumption) | assumption)) (of_decide_eq_true (by first | (with_reducible assumption) | assumption)) HC0.out;have ADs:=Bc.mk (Kd.qi (h1:=λ_=>rfl) (hA8 _ (Kd.ZY HR0.out)));have AMZ:=Bc.mk hC8;clear hA8 hC8 AG5 AG6) | ((with_reducible refine N2 (b:= .append) (xs:= #[.tmp 3, .tmp 7]) rfl ?_);at_builtin;refine Kd.dM (Kd.int .u64) (w0:=w) w.heap.size rfl (.tmp 3) (.tmp 7) 43 73 (.int .u64 0) 8 rfl Tryz.underlying43 aK rfl (by decide) (by omega) AJq Wv (l0.take (t117:Int).toNat) _ _ _ (λ_=>True) (λ_=>False) rfl rfl ?aO ?aR (λ_ _ h=>h) (λ_ h=>h.elim) ?aF ?aB ?aS ?aL ?_;(case aR=>first | (refine iD (show(l0.take (t117:Int).toNat).length=t117.toNat from(by rw[ANO];have h_:(t117:Int)<=(l0.length:Int):=of_decide_eq_true (by first | (with_reducible assumption) | assumption);omega)) ?_;repeat (first | exact(Kd.N0 ADs.out (by repeat (first | (with_reducible first | exact HB.out | apply BG | apply Am | apply Bl) | exact HB.out))) | (with_reducible refine Kd.US ?_ _) | (with_reducible refine Kd.UT ?_ _) | (with_reducible refine Kd.ZZ ?_))) | (repeat (first | exact(Kd.N0 ADs.out (by repeat (first | (with_reducible first | exact HB.out | apply BG | apply Am | apply Bl) | exact HB.out))) | (with_reducible refine Kd.US ?_ _) | (with_reducible refine Kd.UT ?_ _) | (with_reducible refine Kd.ZZ ?_))));(case aB=>exact(by repeat (first | (with_reducible first | exact HB.out | apply BG | apply Am | apply Bl) | exact HB.out)));(case aF=>exact(λ_ _=>trivial));(case aO=>exact(by(with_reducible repeat (first | apply Kd.Jm | apply Kd.Jn | apply Kd.Mn));exact ADr.out));(case aS=>exact(JN (by repeat (first | (with_reducible first | exact HB.out | apply BG | apply Am | apply Bl) | exact HB.out))));(case aL=>have:=AJo.out;have AMw:=(show(l0.take (t117:Int).toNat).length=t117.toNat from(by rw[ANO];have h_:(t117:Int)<=(l0.length:Int):=of_decide_eq_true (by first | (with_reducible assumption) | assumption);omega));omega);intro AMx w9 ho hb hg Mm;rw[<-AG4.out] at ho;have oK:=Bc.mk (hb);have oL:=Bc.mk (ho);clear HB;clear ADr;have HB:=oK;have AG7:=oL;clear oK oL;clear ho hb hg Mm))
       go_ret
       exact⟨_,by first | rfl | (simp[JO,JP]<;>rfl) | (simp[*,JO,JP]<;>rfl),by(with_reducible repeat (first | apply Kd.Jm | apply Kd.Jn | apply Kd.Mn));exact AG7.out,by repeat (first | (with_reducible first | exact HB.out | apply BG | apply Am | apply Bl) | exact HB.out)⟩
     · rw[if_neg c5] at H
       exact absurd H (by simp)
   · rw[if_neg c4] at H
     exact absurd H (by simp)
 · rw[if_neg c3] at H
   exact absurd H (by simp)
/-! ### nat_Of: function 113 -/
def Iz.f (k:Nat) (a0:Int):Option (List Int):=(Ah.f k (([a0]:List Int))).bind λAJr=>(some AJr)
/-! ### nat_Cmp: function 153 -/
def Dv.l0:Nat->List Int->List Int->Int->Option (Int)
 | 0,_,_,_=>none
 | k+1,x0,x1,x7=>if x7>=0 then(if 0<=x7 then(if x7<(x0.length:Int) then(if x7<(x1.length:Int) then(if(rd x0 x7)<(rd x1 x7) then(some (-1)) else(if(rd x0 x7)>(rd x1 x7) then(some 1) else(Dv.l0 k x0 x1 (wrap64 (x7-1))))) else(none)) else(none)) else(none)) else(some 0)
def Dv.f (k:Nat) (l0 l1:List Int):Option (Int):=(BR.f k l0).bind λAFj=>((BR.f k l1).bind λAG8=>(if AFj=AG8 then(Dv.l0 k l0 l1 (wrap64 (AFj-1))) else(if AFj<AG8 then(some (-1)) else(some 1))))
/-! ### limb_Len: function 87 -/
def BC.l0:Nat->Int->Int->Int->Option (Int)
 | 0,_,_,_=>none
 | k+1,x0,x3,x4=>if x4>0 then(if 0<=x4 then(if(shr .u64 x0 x4)>0 then(BC.l0 k (shr .u64 x0 x4) (wrap64 (x3+x4)) (x4/2)) else(BC.l0 k x0 x3 (x4/2))) else(none)) else(some (wrap64 (x3+(wrap64 (x0)))))
def BC.f (k:Nat) (a0:Int):Option (Int):=BC.l0 k a0 0 32
/-! ### limb_digit: function 150 -/
mutual
def BZ.l0:Nat->Int->Int->Int->Int->Int->Int->Int->Option (Int × Int)
 | 0,_,_,_,_,_,_,_=>none
 | k+1,x0,x1,x2,x8,x9,LB,Kr=>if LB>4294967295 then(BZ.j1 k x0 x1 x2 x8 x9 LB Kr true) else(BZ.j1 k x0 x1 x2 x8 x9 LB Kr (decide ((IntKind.u64.wrap (LB*x8))>(Go.bits .or .u64 (IntKind.u64.wrap (Kr*4294967296)) x1))))
def BZ.j1:Nat->Int->Int->Int->Int->Int->Int->Int->Bool->Option (Int × Int)
 | 0,_,_,_,_,_,_,_,_=>none
 | k+1,x0,x1,x2,x8,x9,LB,Kr,x33=>if x33=true then(if(IntKind.u64.wrap (Kr+x9))>4294967295 then(some (IntKind.u64.wrap (LB-1),IntKind.u64.wrap ((IntKind.u64.wrap ((IntKind.u64.wrap (x0*4294967296))+x1))-(IntKind.u64.wrap ((IntKind.u64.wrap (LB-1))*x2))))) else(BZ.l0 k x0 x1 x2 x8 x9 (IntKind.u64.wrap (LB-1)) (IntKind.u64.wrap (Kr+x9)))) else(some (LB,IntKind.u64.wrap ((IntKind.u64.wrap ((IntKind.u64.wrap (x0*4294967296))+x1))-(IntKind.u64.wrap (LB*x2)))))
end
def BZ.f (k:Nat) (a0 a1 a2:Int):Option (Int × Int):=if(a2/4294967296)=0 then(none) else(BZ.l0 k a0 a1 a2 (Go.bits .and .u64 a2 4294967295) (a2/4294967296) (IntKind.u64.wrap (Int.tdiv a0 (a2/4294967296))) (Int.tmod a0 (a2/4294967296)))
/-! ### limb_Div: function 122 -/
def Gq.f (k:Nat) (a0 a1 a2:Int):Option (Int × Int × Bool):=if a0>=a2 then(some (0,0,false)) else((BC.f k a2).bind λjz=>(if 0<=(wrap64 (64-jz)) then(if 0<=(wrap64 (63-(wrap64 (64-jz)))) then((BZ.f k (Go.bits .or .u64 (shl .u64 a0 (wrap64 (64-jz))) (shr .u64 (a1/2) (wrap64 (63-(wrap64 (64-jz)))))) ((shl .u64 a1 (wrap64 (64-jz)))/4294967296) (shl .u64 a2 (wrap64 (64-jz)))).bind λADt=>((BZ.f k ADt.2 (Go.bits .and .u64 (shl .u64 a1 (wrap64 (64-jz))) 4294967295) (shl .u64 a2 (wrap64 (64-jz)))).bind λADu=>(some (Go.bits .or .u64 (IntKind.u64.wrap (ADt.1*4294967296)) ADu.1,shr .u64 ADu.2 (wrap64 (64-jz)),true)))) else(none)) else(none)))
/-! ### quot_Word: function 154 -/
def Cx.l0:Nat->List Int->Int->List Int->Int->Int->Option (List Int × Int × Bool)
 | 0,_,_,_,_,_=>none
 | k+1,x0,x1,x7,x8,x9=>if x9>=0 then(if 0<=x9 then(if x9<(x0.length:Int) then((Gq.f k x8 (rd x0 x9) x1).bind λADv=>(if x9<(x7.length:Int) then(Cx.l0 k x0 x1 (x7.set (x9:Int).toNat ADv.1) ADv.2.1 (wrap64 (x9-1))) else(none))) else(none)) else(none)) else((Ah.f k x7).bind λAJs=>(some (AJs,x8,true)))
def Cx.f (k:Nat) (l0:List Int) (a1:Int):Option (List Int × Int × Bool):=if a1=0 then(some (([]:List Int),0,false)) else(if 0<=(l0.length:Int) then(if((l0.length:Int):Int).toNat<=35184372088832 then(Cx.l0 k l0 a1 (List.replicate ((l0.length:Int):Int).toNat 0) 0 (wrap64 ((l0.length:Int)-1))) else(none)) else(none))
/-! ### nat_Shl: function 210 -/
def Bp.l0:Nat->Int->List Int->Int->List Int->Int->Int->Option (List Int)
 | 0,_,_,_,_,_,_=>none
 | k+1,x6,x7,x8,u9,x26,yI=>if yI<x26 then(if 0<=yI then(if yI<(u9.length:Int) then(if x7.length<17592186044416 then(Bp.l0 k x6 (x7++ [Go.bits .or .u64 (IntKind.u64.wrap ((rd u9 yI)*2^x6.toNat)) x8]) (((rd u9 yI)/2)/2^(63-x6).toNat) u9 x26 (wrap64 (yI+1))) else(none)) else(none)) else(none)) else(if x7.length<17592186044416 then((Ah.f k (x7++ [x8])).bind λt163=>(some t163)) else(none))
def Bp.f (k:Nat) (l0:List Int) (a1:Int):Option (List Int):=if((mn (mx a1 0) 65536)/64)>=0 then(if((mn (mx a1 0) 65536)/64)<=(wrap64 ((wrap64 (((mn (mx a1 0) 65536)/64)+(l0.length:Int)))+1)) then(if(wrap64 ((wrap64 (((mn (mx a1 0) 65536)/64)+(l0.length:Int)))+1):Int).toNat<=35184372088832 then(Bp.l0 k ((mn (mx a1 0) 65536)%64) (List.replicate ((mn (mx a1 0) 65536)/64:Int).toNat 0) 0 l0 (l0.length:Int) 0) else(none)) else(none)) else(none)
set_option maxHeartbeats 8000000 in
set_option maxRecDepth 100000 in
theorem Bp.calls (k:Nat) (A0:Option Addr) (c0:Nat) (l0:List Int) (a1:Int) (r:List Int) (w:World) (Uu:Kd.C (Kd.int .u64) w A0 l0.length l0) (hc0:l0.length<=c0) (h:Bp.f k l0 a1=some r) :
 Calls Tryz.prog 210 #[.slice A0 l0.length c0, .int .i64 a1] w λe w'=> ∃v0_:Value,e= .returned (v0_)/\Kd.R (Kd.int .u64) 73 w' w.heap.size (λ_=>True) v0_ r/\Below w.heap.size w w':=by
 have HR0:=Bc.mk Uu;have HC0:=Bc.mk hc0;clear Uu hc0;have HB:=Bc.mk (Below.refl w.heap.size w);have H:(if((mn (mx a1 0) 65536)/64)>=0 then(if((mn (mx a1 0) 65536)/64)<=(wrap64 ((wrap64 (((mn (mx a1 0) 65536)/64)+(l0.length:Int)))+1)) then(if(wrap64 ((wrap64 (((mn (mx a1 0) 65536)/64)+(l0.length:Int)))+1):Int).toNat<=35184372088832 then(Bp.l0 k ((mn (mx a1 0) 65536)%64) (List.replicate ((mn (mx a1 0) 65536)/64:Int).toNat 0) 0 l0 (l0.length:Int) 0) else(none)) else(none)) else(none))=some r:=h;clear h;obtain⟨Pz,bN⟩ : ∃j_:Int,(mx a1 0)=j_:=⟨_,rfl⟩
 replace H:(if((mn (Pz) 65536)/64)>=0 then(if((mn (Pz) 65536)/64)<=(wrap64 ((wrap64 (((mn (Pz) 65536)/64)+(l0.length:Int)))+1)) then(if(wrap64 ((wrap64 (((mn (Pz) 65536)/64)+(l0.length:Int)))+1):Int).toNat<=35184372088832 then(Bp.l0 k ((mn (Pz) 65536)%64) (List.replicate ((mn (Pz) 65536)/64:Int).toNat 0) 0 l0 (l0.length:Int) 0) else(none)) else(none)) else(none))=some r:=by first | (rw[bN] at H;exact H) | (simp only[bN] at H ⊢;exact H)
 (try (have AMa:0<=Pz:=by(rw[<-bN];unfold mx;(repeat' split)<;>omega)))
 (try (have AMb:0<=Pz:=by omega))
 (try (have AMc : ∀m_:Int,Int.tdiv Pz m_=Pz/m_:=λm_=>AN5 (by omega)))
 have AMd:(if a1<0 then 0 else a1)=Pz:=bN;obtain⟨Tz,AA3⟩ : ∃j_:Int,(mn (Pz) 65536)=j_:=⟨_,rfl⟩
 replace H:(if((Tz)/64)>=0 then(if((Tz)/64)<=(wrap64 ((wrap64 (((Tz)/64)+(l0.length:Int)))+1)) then(if(wrap64 ((wrap64 (((Tz)/64)+(l0.length:Int)))+1):Int).toNat<=35184372088832 then(Bp.l0 k ((Tz)%64) (List.replicate ((Tz)/64:Int).toNat 0) 0 l0 (l0.length:Int) 0) else(none)) else(none)) else(none))=some r:=by first | (rw[AA3] at H;exact H) | (simp only[AA3] at H ⊢;exact H)
 have AMe:(if 65536<(Pz) then 65536 else(Pz))=Tz:=AA3;by_cases c5:((Tz)/64)>=0
 · rw[if_pos c5] at H
   have AG2:=eq_true c5;have AJt:decide (((Tz)/64)>=0)=true:=decide_eq_true c5;clear c5;by_cases c6:((Tz)/64)<=(wrap64 ((wrap64 (((Tz)/64)+(l0.length:Int)))+1))
   · rw[if_pos c6] at H
     have AFg:=eq_true c6;have AFh:decide (((Tz)/64)<=(wrap64 ((wrap64 (((Tz)/64)+(l0.length:Int)))+1)))=true:=decide_eq_true c6;by_cases c7:(wrap64 ((wrap64 (((Tz)/64)+(l0.length:Int)))+1):Int).toNat<=35184372088832
     · rw[if_pos c7] at H
       have AJu:=eq_true c7;have AJv:decide ((wrap64 ((wrap64 (((Tz)/64)+(l0.length:Int)))+1):Int).toNat<=35184372088832)=true:=decide_eq_true c7;obtain⟨AG9,oM⟩ : ∃y_:List Int,y_=(List.replicate ((Tz)/64:Int).toNat 0):=⟨_,rfl⟩
       replace H:(Bp.l0 k ((Tz)%64) AG9 0 l0 (l0.length:Int) 0)=some r:=by first | (rw[oM];with_reducible exact H) | (have jy:=(AOO _ _).symm.trans H;rw[oM];with_reducible exact jy) | (have jy:=(AOO _ _).symm.trans H;with_reducible exact jy) | with_reducible exact H | (rw[oM];exact H) | exact H
       have ADw:=Bc.mk oM;clear oM;have H':=Bc.mk H;clear H
       go_enter Tryz.func210,Tryz.ntmps210
       go_wp2_with (first | ((with_reducible refine mH (N:=24) rfl ?_);refine Kd.vv (Kd.int .u64) _ 73 rfl (N:=24) rfl 43 _ _ rfl ((Tz)/64) (wrap64 ((wrap64 (((Tz)/64)+(l0.length:Int)))+1)) rfl rfl Tryz.underlying43 (.int .u64 0) 8 aK rfl (by decide) (by omega) 0 (ok:=λ_=>True) (TZ:=λ_=>True) rfl (λ_ hk=>hk) trivial (of_decide_eq_true (by first | (with_reducible assumption) | assumption)) (of_decide_eq_true (by first | (with_reducible assumption) | assumption)) (AN6 (ANV _ (of_decide_eq_true (by first | (with_reducible assumption) | assumption):(wrap64 ((wrap64 (((Tz)/64)+(l0.length:Int)))+1):Int).toNat<=35184372088832)) (by omega)) (Below.refl _ _) (ANS _) ?_;intro AMy w8 ho9 hb hg_ AA0;clear hg_ AA0;(first | rw[<-ADw.out] at ho9 | (simp only[Int.reduceToNat] at ho9;rw[<-ADw.out] at ho9));have oK:=Bc.mk (Kd.Y4 ho9 (JN (by repeat (first | (with_reducible first | exact HB.out | apply BG | apply Am | apply Bl) | exact HB.out))));have oL:=Bc.mk (Ta (by repeat (first | (with_reducible first | exact HB.out | apply BG | apply Am | apply Bl) | exact HB.out)) hb);clear HB;have AHA:=oK;have HB:=oL;clear oK oL;clear hb ho9))
       go_loopg [7,8,27] k (λkq v7 v8 v27 w'=> ∃(j6:List Int) (j8:Int) (IV:Int),v8= .int .u64 j8/\v27= .int .i64 IV/\Bc (Bp.l0 kq ((Tz)%64) j6 j8 l0 (l0.length:Int) IV=some r)/\Bc (kq<=k)/\Bc (Kd.R (Kd.int .u64) 73 w' w.heap.size (λ_=>True) v7 j6)/\Bc (Below w.heap.size w w'))
       case atStart=>exact⟨(AG9),(0),(0),(by first | rfl | (simp;done) | (simp[*];done)),(by first | rfl | (simp;done) | (simp[*];done)),H',⟨ANS _⟩,⟨by(with_reducible repeat (first | apply Kd.Jm | apply Kd.Jn | apply Kd.Mn));exact AHA.out⟩,⟨by repeat (first | (with_reducible first | exact HB.out | apply BG | apply Am | apply Bl) | exact HB.out)⟩⟩
       case round =>
        clear H'
        try clear c2
        try clear p2
        try clear c5
        try clear AG2
        try clear AJt
        try clear c6
        try clear AFg
        try clear AFh
        try clear p6
        try clear c7
        try clear AJu
        try clear AJv
        obtain⟨j6,j8,IV,rfl,rfl,HA,HK1,ADC,HB⟩:=hrel;cases gk with
        | zero=>exact absurd HA.out (by simp[Bp.l0])
        | succ k1 =>
          have H:=HA.out;clear HA;simp only[Bp.l0] at H;by_cases c10:IV<(l0.length:Int)
          · rw[if_pos c10] at H
            have AHB:decide (IV<(l0.length:Int))=true:=decide_eq_true c10;clear c10;by_cases c11:0<=IV
            · rw[if_pos c11] at H
              have AMf:decide (0<=IV)=true:=decide_eq_true c11;clear c11;by_cases c12:IV<(l0.length:Int)
              · rw[if_pos c12] at H
                have AMg:decide (IV<(l0.length:Int))=true:=decide_eq_true c12;clear c12
                (try (have AMz:min (((Tz)%64):Int).toNat 64=(((Tz)%64):Int).toNat:=by omega))
                by_cases c14:j6.length<17592186044416
                · rw[if_pos c14] at H
                  have AHC:=Bc.mk c14;clear c14;obtain⟨AHD,oN⟩ : ∃y_:List Int,y_=(j6++ [Go.bits .or .u64 (IntKind.u64.wrap ((rd l0 IV)*2^((Tz)%64).toNat)) j8]):=⟨_,rfl⟩
                  replace H:(Bp.l0 k1 ((Tz)%64) AHD (((rd l0 IV)/2)/2^(63-((Tz)%64)).toNat) l0 (l0.length:Int) (wrap64 (IV+1)))=some r:=by first | (rw[oN];with_reducible exact H) | (have jy:=(AOO _ _).symm.trans H;rw[oN];with_reducible exact jy) | (have jy:=(AOO _ _).symm.trans H;with_reducible exact jy) | with_reducible exact H | (rw[oN];exact H) | exact H
                  have AHE:=Bc.mk oN;clear oN
                  (try (have AM0:min ((63-((Tz)%64)):Int).toNat 64=((63-((Tz)%64)):Int).toNat:=by omega))
                  have H':=Bc.mk H;clear H;have AFk:0<=(IV:Int):=of_decide_eq_true (by first | (with_reducible assumption) | assumption);have AFl:IV<(l0.length:Int):=of_decide_eq_true (by first | (with_reducible assumption) | assumption);obtain⟨AMh,AJw,kC⟩:=Kd.qj HR0.out IV AFk AFl;cases AJw
                  replace kC:=(HB.out.cell (World.block_lt_of_cell? w _ kC)).trans kC
                  replace AFk:=eq_true AFk
                  replace AFl:=eq_true AFl
                  go_wp2_with (first | ((with_reducible refine N2 (b:= .append) (xs:= #[.tmp 31, .tmp 37]) rfl ?_);at_builtin;refine Kd.mE (Kd.int .u64) (w0:=w) w.heap.size rfl (.tmp 31) (.tmp 37) 43 73 (.int .u64 0) 8 rfl Tryz.underlying43 aK rfl (by decide) (by omega) u7 j6 (Go.bits .or .u64 (IntKind.u64.wrap ((rd l0 IV)*2^((Tz)%64).toNat)) j8) [.int .u64 (Go.bits .or .u64 (IntKind.u64.wrap ((rd l0 IV)*2^((Tz)%64).toNat)) j8)] (λ_=>True) (λ_=>False) rfl rfl ?aP (λ_ hk=>hk.elim) ?aF ?aO ?aB ?aS ?aL ?_;(case aP=>exact rfl);(case aB=>exact(by repeat (first | (with_reducible first | exact HB.out | apply BG | apply Am | apply Bl) | exact HB.out)));(case aF=>exact(λ_ _=>trivial));(case aO=>exact(by(with_reducible repeat (first | apply Kd.Jm | apply Kd.Jn | apply Kd.Mn));exact ADC.out));(case aS=>exact(JN (by repeat (first | (with_reducible first | exact HB.out | apply BG | apply Am | apply Bl) | exact HB.out))));(case aL=>have:=AHC.out;omega);intro AM1 w16 ho hb hg Mm;rw[<-AHE.out] at ho;have oK:=Bc.mk (hb);have oL:=Bc.mk (ho);clear HB;clear ADC;have HB:=oK;have AHF:=oL;clear oK oL;clear ho hb hg Mm))
                  go_roundg k1
                  case measure=>have:=HK1.out;omega
                  case rel=>exact⟨(AHD),(((rd l0 IV)/2)/2^(63-((Tz)%64)).toNat),(wrap64 (IV+1)),(by first | rfl | (simp;done) | (simp only[<-AA3]<;>(first | rfl | simp)) | (simp[*];done)),(by first | rfl | (simp;done) | (simp[*];done)),H',⟨by have:=HK1.out;omega⟩,⟨by(with_reducible repeat (first | apply Kd.Jm | apply Kd.Jn | apply Kd.Mn));exact AHF.out⟩,⟨by repeat (first | (with_reducible first | exact HB.out | apply BG | apply Am | apply Bl) | exact HB.out)⟩⟩
                · rw[if_neg c14] at H
                  exact absurd H (by simp)
              · rw[if_neg c12] at H
                exact absurd H (by simp)
            · rw[if_neg c11] at H
              exact absurd H (by simp)
          · rw[if_neg c10] at H
            have AHB:decide (IV<(l0.length:Int))=false:=decide_eq_false c10;clear c10;by_cases c17:j6.length<17592186044416
            · rw[if_pos c17] at H
              have AHG:=Bc.mk c17;clear c17;obtain⟨AFm,oO⟩ : ∃y_:List Int,y_=(j6++ [j8]):=⟨_,rfl⟩
              replace H:((Ah.f k1 AFm).bind λt163=>(some t163))=some r:=by first | (rw[oO];with_reducible exact H) | (have jy:=(AOO _ _).symm.trans H;rw[oO];with_reducible exact jy) | (have jy:=(AOO _ _).symm.trans H;with_reducible exact jy) | with_reducible exact H | (rw[oO];exact H) | exact H
              have AHH:=Bc.mk oO;clear oO
              replace H:=AOn.mp H
              obtain⟨t163,AHI,H⟩:=H
              replace H:(some t163)=some r:=H
              have A18:=Bc.mk AHI;clear AHI;obtain rfl:=APN H
              go_wp2_with (first | ((with_reducible refine N2 (b:= .append) (xs:= #[.tmp 45, .tmp 47]) rfl ?_);at_builtin;refine Kd.mE (Kd.int .u64) (w0:=w) w.heap.size rfl (.tmp 45) (.tmp 47) 43 73 (.int .u64 0) 8 rfl Tryz.underlying43 aK rfl (by decide) (by omega) u7 j6 j8 [.int .u64 j8] (λ_=>True) (λ_=>False) rfl rfl ?aP (λ_ hk=>hk.elim) ?aF ?aO ?aB ?aS ?aL ?_;(case aP=>exact rfl);(case aB=>exact(by repeat (first | (with_reducible first | exact HB.out | apply BG | apply Am | apply Bl) | exact HB.out)));(case aF=>exact(λ_ _=>trivial));(case aO=>exact(by(with_reducible repeat (first | apply Kd.Jm | apply Kd.Jn | apply Kd.Mn));exact ADC.out));(case aS=>exact(JN (by repeat (first | (with_reducible first | exact HB.out | apply BG | apply Am | apply Bl) | exact HB.out))));(case aL=>have:=AHG.out;omega);intro AM2 w19 ho hb hg Mm;rw[<-AHH.out] at ho;have oK:=Bc.mk (hb);have oL:=Bc.mk (ho);clear HB;clear ADC;have HB:=oK;have bO:=oL;clear oK oL;clear ho hb hg Mm;obtain⟨AJx,AJy,AJz⟩:=Kd.ABy bO.out;subst AJz) | ((with_reducible refine XQ (f:=187) rfl ?_);refine yV (some 49) rfl rfl Tryz.func187 (by kernel_rfl) rfl #[.slice AJx AFm.length AJy] rfl (by(try simp only[AP0,ANx,AQG]);first | done | rfl | (simp only[ANo,ANO];rfl) | (simp only[*];done)) ?_;(with_reducible refine(Ah.calls k1 _ _ AFm t163 _ ?AA1 ?AA2 A18.out).mono ?_);(case AA1=>repeat (first | exact(Kd.mF bO.out).2.2 | (with_reducible refine Kd.US ?_ _) | (with_reducible refine Kd.UT ?_ _) | (with_reducible refine Kd.ZZ ?_)));(case AA2=>exact(Kd.mF bO.out).2.1);rintro e w21 ⟨AM3,rfl,ho0,hb⟩;refine⟨_,rfl, ?_⟩;have oK:=Bc.mk (Kd.yU (by(with_reducible repeat (first | apply Kd.Jm | apply Kd.Jn | apply Kd.Mn));exact bO.out) (Kd.AEb ho0) hb);have oL:=Bc.mk (Kd.Y4 (Kd.AEd ho0 (Kd.AJF (by(with_reducible repeat (first | apply Kd.Jm | apply Kd.Jn | apply Kd.Mn));exact bO.out))) (JN (by repeat (first | (with_reducible first | exact HB.out | apply BG | apply Am | apply Bl) | exact HB.out))));have n2_:=Bc.mk (Ta (by repeat (first | (with_reducible first | exact HB.out | apply BG | apply Am | apply Bl) | exact HB.out)) hb);clear bO;clear HB;have bO:=oK;have AHJ:=oL;have HB:=n2_;clear oK oL n2_;(try clear hb);(try clear l6);(try clear hk);(try clear hi);(try clear ho0)))
              go_ret
              exact⟨_,by first | rfl | (simp[JO,JP]<;>rfl) | (simp only[<-bN,<-AA3];first | rfl | (simp[JO,JP]<;>rfl)) | (simp[*,JO,JP]<;>rfl),by(with_reducible repeat (first | apply Kd.Jm | apply Kd.Jn | apply Kd.Mn));exact Kd.ZX AHJ.out (λ_ hk=>trivial),by repeat (first | (with_reducible first | exact HB.out | apply BG | apply Am | apply Bl) | exact HB.out)⟩
            · rw[if_neg c17] at H
              exact absurd H (by simp)
     · rw[if_neg c7] at H
       exact absurd H (by simp)
   · rw[if_neg c6] at H
     exact absurd H (by simp)
 · rw[if_neg c5] at H
   exact absurd H (by simp)
/-! ### nat_Bits: function 114 -/
def Ce.f (k:Nat) (l0:List Int):Option (Int):=(BR.f k l0).bind λAA4=>(if AA4=0 then(some 0) else(if 0<=(wrap64 (AA4-1)) then(if(wrap64 (AA4-1))<(l0.length:Int) then((BC.f k (rd l0 (wrap64 (AA4-1)))).bind λAJ0=>(some (wrap64 ((wrap64 (64*(wrap64 (AA4-1))))+AJ0)))) else(none)) else(none)))
/-! ### nat_Shr: function 116 -/
def Df.l0:Nat->List Int->Int->List Int->Int->Option (List Int)
 | 0,_,_,_,_=>none
 | k+1,x0,x6,x7,x8=>if x8<(x0.length:Int) then(if(wrap64 (x8+1))<(x0.length:Int) then(if 0<=(wrap64 (x8+1)) then(if 0<=x8 then(if x7.length<17592186044416 then(Df.l0 k x0 x6 (x7++ [Go.bits .or .u64 ((rd x0 x8)/2^x6.toNat) (IntKind.u64.wrap ((IntKind.u64.wrap ((rd x0 (wrap64 (x8+1)))*2))*2^(63-x6).toNat))]) (wrap64 (x8+1))) else(none)) else(none)) else(none)) else(if 0<=x8 then(if x7.length<17592186044416 then(Df.l0 k x0 x6 (x7++ [Go.bits .or .u64 ((rd x0 x8)/2^x6.toNat) 0]) (wrap64 (x8+1))) else(none)) else(none))) else((Ah.f k x7).bind λAJ1=>(some AJ1))
def Df.f (k:Nat) (l0:List Int) (a1:Int):Option (List Int):=if(wrap64 ((mx a1 0)/64))>=(l0.length:Int) then(some ([]:List Int)) else(if 0<=(wrap64 ((l0.length:Int)-(wrap64 ((mx a1 0)/64)))) then(if(wrap64 ((l0.length:Int)-(wrap64 ((mx a1 0)/64))):Int).toNat<=35184372088832 then(Df.l0 k l0 ((mx a1 0)%64) (List.replicate 0 0) (wrap64 ((mx a1 0)/64))) else(none)) else(none))
/-! ### limb_Mul: function 120 -/
def DF.f (a0 a1:Int):Option (Int × Int):=some (IntKind.u64.wrap ((IntKind.u64.wrap ((IntKind.u64.wrap ((a0/4294967296)*(a1/4294967296)))+((IntKind.u64.wrap ((IntKind.u64.wrap ((Go.bits .and .u64 a0 4294967295)*(a1/4294967296)))+((IntKind.u64.wrap ((Go.bits .and .u64 a0 4294967295)*(Go.bits .and .u64 a1 4294967295)))/4294967296)))/4294967296)))+((IntKind.u64.wrap ((IntKind.u64.wrap ((a0/4294967296)*(Go.bits .and .u64 a1 4294967295)))+(Go.bits .and .u64 (IntKind.u64.wrap ((IntKind.u64.wrap ((Go.bits .and .u64 a0 4294967295)*(a1/4294967296)))+((IntKind.u64.wrap ((Go.bits .and .u64 a0 4294967295)*(Go.bits .and .u64 a1 4294967295)))/4294967296))) 4294967295)))/4294967296)),Go.bits .or .u64 (IntKind.u64.wrap ((IntKind.u64.wrap ((IntKind.u64.wrap ((a0/4294967296)*(Go.bits .and .u64 a1 4294967295)))+(Go.bits .and .u64 (IntKind.u64.wrap ((IntKind.u64.wrap ((Go.bits .and .u64 a0 4294967295)*(a1/4294967296)))+((IntKind.u64.wrap ((Go.bits .and .u64 a0 4294967295)*(Go.bits .and .u64 a1 4294967295)))/4294967296))) 4294967295)))*4294967296)) (Go.bits .and .u64 (IntKind.u64.wrap ((Go.bits .and .u64 a0 4294967295)*(Go.bits .and .u64 a1 4294967295))) 4294967295))
/-! ### limb_Sub: function 163 -/
def EE.f (a0 a1 a2:Int):Option (Int × Int):=if a0<a1 then(if(IntKind.u64.wrap (a0-a1))<a2 then(some (IntKind.u64.wrap ((IntKind.u64.wrap (a0-a1))-a2),(0+1)+1)) else(some (IntKind.u64.wrap ((IntKind.u64.wrap (a0-a1))-a2),0+1))) else(if(IntKind.u64.wrap (a0-a1))<a2 then(some (IntKind.u64.wrap ((IntKind.u64.wrap (a0-a1))-a2),0+1)) else(some (IntKind.u64.wrap ((IntKind.u64.wrap (a0-a1))-a2),0)))
/-! ### quot_correct: function 162 -/
def BF.l0:Nat->Int->Int->Int->Int->Int->Int->Option (Int)
 | 0,_,_,_,_,_,_=>none
 | k+1,x0,x1,x2,x3,x4,x5=>(DF.f x0 x4).bind λADx=>((EE.f x2 ADx.2 0).bind λAA5=>((EE.f x1 ADx.1 AA5.2).bind λAHK=>((DF.f x0 x5).bind λAA6=>(if AHK.1=0 then(if AA6.1<AA5.1 then(some x0) else(if AA6.1=AA5.1 then(if AA6.2<=x3 then(some x0) else(BF.l0 k (IntKind.u64.wrap (x0-1)) x1 x2 x3 x4 x5)) else(BF.l0 k (IntKind.u64.wrap (x0-1)) x1 x2 x3 x4 x5))) else(some x0)))))
def BF.f (k:Nat) (a0 a1 a2 a3 a4 a5:Int):Option (Int):=BF.l0 k a0 a1 a2 a3 a4 a5
/-! ### quot_guess: function 158 -/
def FD.f (k:Nat) (l0:List Int) (a1 a2 a3:Int):Option (Int):=if 0<=a1 then(if a1<(l0.length:Int) then(if 0<=(wrap64 (a1-1)) then(if(wrap64 (a1-1))<(l0.length:Int) then(if 0<=(wrap64 (a1-2)) then(if(wrap64 (a1-2))<(l0.length:Int) then(if(rd l0 a1)>=a2 then((BF.f k 18446744073709551615 (rd l0 a1) (rd l0 (wrap64 (a1-1))) (rd l0 (wrap64 (a1-2))) a2 a3).bind λAJ2=>(some AJ2)) else((Gq.f k (rd l0 a1) (rd l0 (wrap64 (a1-1))) a2).bind λAHL=>((BF.f k AHL.1 (rd l0 a1) (rd l0 (wrap64 (a1-1))) (rd l0 (wrap64 (a1-2))) a2 a3).bind λAJ3=>(some AJ3)))) else(none)) else(none)) else(none)) else(none)) else(none)) else(none)
/-! ### limb_Add: function 147 -/
def DU.f (a0 a1 a2:Int):Option (Int × Int):=if(IntKind.u64.wrap (a0+a1))<a0 then(if(IntKind.u64.wrap ((IntKind.u64.wrap (a0+a1))+a2))<(IntKind.u64.wrap (a0+a1)) then(some (IntKind.u64.wrap ((IntKind.u64.wrap (a0+a1))+a2),(0+1)+1)) else(some (IntKind.u64.wrap ((IntKind.u64.wrap (a0+a1))+a2),0+1))) else(if(IntKind.u64.wrap ((IntKind.u64.wrap (a0+a1))+a2))<(IntKind.u64.wrap (a0+a1)) then(some (IntKind.u64.wrap ((IntKind.u64.wrap (a0+a1))+a2),0+1)) else(some (IntKind.u64.wrap ((IntKind.u64.wrap (a0+a1))+a2),0)))
/-! ### quot_take: function 159 -/
def CU.l0:Nat->List Int->List Int->Int->Int->Int->Int->List Int->Int->Int->Option (Bool × List Int)
 | 0,_,_,_,_,_,_,_,_,_=>none
 | k+1,x0,x1,x2,x3,x9,LB,Xm,PV,Mu=>if Mu<PV then(if 0<=Mu then(if Mu<(Xm.length:Int) then((DF.f (rd Xm Mu) x3).bind λADy=>((DU.f ADy.2 x9 0).bind λADz=>(if 0<=(wrap64 (x2+Mu)) then(if(wrap64 (x2+Mu))<(x0.length:Int) then((EE.f (rd x0 (wrap64 (x2+Mu))) ADz.1 LB).bind λAD0=>(CU.l0 k (x0.set ((wrap64 (x2+Mu)):Int).toNat AD0.1) x1 x2 x3 (IntKind.u64.wrap (ADy.1+ADz.2)) AD0.2 Xm PV (wrap64 (Mu+1)))) else(none)) else(none)))) else(none)) else(none)) else(if 0<=(wrap64 (x2+(x1.length:Int))) then(if(wrap64 (x2+(x1.length:Int)))<(x0.length:Int) then((EE.f (rd x0 (wrap64 (x2+(x1.length:Int)))) x9 LB).bind λAD1=>(some ((AD1.2 !=0),(x0.set ((wrap64 (x2+(x1.length:Int))):Int).toNat AD1.1)))) else(none)) else(none))
def CU.f (k:Nat) (l0 l1:List Int) (a2 a3:Int):Option (Bool × List Int):=CU.l0 k l0 l1 a2 a3 0 0 l1 (l1.length:Int) 0
/-! ### quot_back: function 160 -/
def Cd.l0:Nat->List Int->List Int->Int->Int->List Int->Int->Int->Option (List Int)
 | 0,_,_,_,_,_,_,_=>none
 | k+1,x0,x1,x2,x6,Kr,Xn,F5=>if F5<Xn then(if 0<=F5 then(if F5<(Kr.length:Int) then(if 0<=(wrap64 (x2+F5)) then(if(wrap64 (x2+F5))<(x0.length:Int) then((DU.f (rd x0 (wrap64 (x2+F5))) (rd Kr F5) x6).bind λAD2=>(Cd.l0 k (x0.set ((wrap64 (x2+F5)):Int).toNat AD2.1) x1 x2 AD2.2 Kr Xn (wrap64 (F5+1)))) else(none)) else(none)) else(none)) else(none)) else(if 0<=(wrap64 (x2+(x1.length:Int))) then(if(wrap64 (x2+(x1.length:Int)))<(x0.length:Int) then(some (x0.set ((wrap64 (x2+(x1.length:Int))):Int).toNat (IntKind.u64.wrap ((rd x0 (wrap64 (x2+(x1.length:Int))))+x6)))) else(none)) else(none))
def Cd.f (k:Nat) (l0 l1:List Int) (a2:Int):Option (List Int):=Cd.l0 k l0 l1 a2 0 l1 (l1.length:Int) 0
/-! ### quot_long: function 155 -/
mutual
def Bi.l0:Nat->List Int->Int->List Int->List Int->Option (List Int × List Int)
 | 0,_,_,_,_=>none
 | k+1,x0,x6,x7,x8=>if(x8.length:Int)<(wrap64 ((x0.length:Int)+1)) then(if x8.length<17592186044416 then(Bi.l0 k x0 x6 x7 (x8++ [0])) else(none)) else(if 0<=(wrap64 ((x8.length:Int)-(x7.length:Int))) then(if(wrap64 ((x8.length:Int)-(x7.length:Int)):Int).toNat<=35184372088832 then((some (List.replicate (wrap64 ((x8.length:Int)-(x7.length:Int)):Int).toNat 0:List Int)).bind λAHM=>(Bi.l1 k x6 x7 x8 (x7.length:Int) AHM (wrap64 ((AHM.length:Int)-1)))) else(none)) else(none))
def Bi.l1:Nat->Int->List Int->List Int->Int->List Int->Int->Option (List Int × List Int)
 | 0,_,_,_,_,_,_=>none
 | k+1,x6,x7,x8,x9,LB,Kr=>if Kr>=0 then(if 0<=(wrap64 (x9-1)) then(if(wrap64 (x9-1))<(x7.length:Int) then(if 0<=(wrap64 (x9-2)) then(if(wrap64 (x9-2))<(x7.length:Int) then((FD.f k x8 (wrap64 (Kr+x9)) (rd x7 (wrap64 (x9-1))) (rd x7 (wrap64 (x9-2)))).bind λAFn=>((CU.f k x8 x7 Kr AFn).bind λAA7=>(if AA7.1=true then((Cd.f k AA7.2 x7 Kr).bind λAJ4=>(if 0<=Kr then(if Kr<(LB.length:Int) then(Bi.l1 k x6 x7 AJ4 x9 (LB.set (Kr:Int).toNat (IntKind.u64.wrap (AFn-1))) (wrap64 (Kr-1))) else(none)) else(none))) else(if 0<=Kr then(if Kr<(LB.length:Int) then(Bi.l1 k x6 x7 AA7.2 x9 (LB.set (Kr:Int).toNat AFn) (wrap64 (Kr-1))) else(none)) else(none))))) else(none)) else(none)) else(none)) else(none)) else((Ah.f k LB).bind λAJ5=>((Df.f k x8 x6).bind λAJ6=>(some (AJ5,AJ6))))
end
def Bi.f (k:Nat) (l0 l1:List Int):Option (List Int × List Int):=(Ce.f k l1).bind λAFo=>((Bp.f k l1 (wrap64 ((wrap64 (64*(l1.length:Int)))-AFo))).bind λAJ7=>((Bp.f k l0 (wrap64 ((wrap64 (64*(l1.length:Int)))-AFo))).bind λAJ8=>(Bi.l0 k l0 (wrap64 ((wrap64 (64*(l1.length:Int)))-AFo)) AJ7 AJ8)))
/-! ### quot_Div: function 133 -/
def GK.f (k:Nat) (l0 l1:List Int):Option (List Int × List Int × Bool):=(Ah.f k l0).bind λADD=>((Ah.f k l1).bind λxL=>(if(xL.length:Int)=0 then(some (([]:List Int),([]:List Int),false)) else((Dv.f k ADD xL).bind λAJ9=>(if AJ9<0 then(some (([]:List Int),ADD,true)) else(if(xL.length:Int)=1 then(if 0<(xL.length:Int) then((Cx.f k ADD (rd xL 0)).bind λAD3=>((Iz.f k AD3.2.1).bind λAKA=>(some (AD3.1,AKA,true)))) else(none)) else((Bi.f k ADD xL).bind λAD4=>(some (AD4.1,AD4.2,true))))))))
/-! ### nat_Word: function 115 -/
def Hw.f (k:Nat) (l0:List Int):Option (Int × Bool):=(BR.f k l0).bind λAHN=>(if AHN=0 then(some (0,true)) else(if AHN=1 then(if 0<(l0.length:Int) then(some (rd l0 0,true)) else(none)) else(some (0,false))))
/-! ### gcd_words: function 165 -/
def Db.l0:Nat->Int->Int->Option (Int)
 | 0,_,_=>none
 | k+1,x0,x1=>if x1=0 then(some x0) else(Db.l0 k x1 (Int.tmod x0 x1))
def Db.f (k:Nat) (a0 a1:Int):Option (Int):=Db.l0 k a0 a1
/-! ### gcd_Gcd: function 164 -/
def E4.l0:Nat->List Int->List Int->Option (List Int)
 | 0,_,_=>none
 | k+1,x0,x1=>if(x1.length:Int)>1 then((GK.f k x0 x1).bind λAHO=>(E4.l0 k x1 AHO.2.1)) else((Hw.f k x1).bind λAA8=>(if AA8.1=0 then(some x0) else((Cx.f k x0 AA8.1).bind λAHP=>((Db.f k AA8.1 AHP.2.1).bind λAKB=>((Iz.f k AKB).bind λAKC=>(some AKC))))))
def E4.f (k:Nat) (l0 l1:List Int):Option (List Int):=(Ah.f k l0).bind λAKD=>((Ah.f k l1).bind λAKE=>(E4.l0 k AKD AKE))
/-! ### gcd_Reduce: function 161 -/
def FF.f (k:Nat) (l0 l1:List Int):Option (List Int × List Int):=(E4.f k l0 l1).bind λAFp=>(if(AFp.length:Int)=0 then(some (([]:List Int),([]:List Int))) else((GK.f k l0 AFp).bind λAHQ=>((GK.f k l1 AFp).bind λAHR=>(some (AHQ.1,AHR.1)))))
/-! ### rat_lowest: function 157 -/
def Ei.f (k:Nat) (a0:Bool) (l1 l2:List Int):Option (Bool × List Int × List Int):=(FF.f k l1 l2).bind λoP=>(if a0=true then(some (decide ((oP.1.length:Int)>0),oP.1,oP.2)) else(some (false,oP.1,oP.2)))
/-! ### prod_rows: function 144 -/
mutual
def Bb.l0:Nat->List Int->List Int->List Int->Int->Int->Option (List Int)
 | 0,_,_,_,_,_=>none
 | k+1,x1,x5,PV,Mu,NO=>if NO<Mu then(if 0<=NO then(if NO<(PV.length:Int) then(Bb.l1 k x1 x5 NO (rd PV NO) 0 PV Mu NO x1 (x1.length:Int) 0) else(none)) else(none)) else((Ah.f k x5).bind λAKF=>(some AKF))
def Bb.l1:Nat->List Int->List Int->Int->Int->Int->List Int->Int->Int->List Int->Int->Int->Option (List Int)
 | 0,_,_,_,_,_,_,_,_,_,_,_=>none
 | k+1,x1,x5,x6,x7,x8,PV,Mu,NO,yJ,gC,oQ=>if oQ<gC then(if 0<=oQ then(if oQ<(yJ.length:Int) then((DF.f x7 (rd yJ oQ)).bind λAD5=>(if 0<=(wrap64 (x6+oQ)) then(if(wrap64 (x6+oQ))<(x5.length:Int) then((DU.f (rd x5 (wrap64 (x6+oQ))) AD5.2 x8).bind λAD6=>(Bb.l1 k x1 (x5.set ((wrap64 (x6+oQ)):Int).toNat AD6.1) x6 x7 (IntKind.u64.wrap (AD5.1+AD6.2)) PV Mu NO yJ gC (wrap64 (oQ+1)))) else(none)) else(none))) else(none)) else(none)) else(if 0<=(wrap64 (x6+(x1.length:Int))) then(if(wrap64 (x6+(x1.length:Int)))<(x5.length:Int) then(Bb.l0 k x1 (x5.set ((wrap64 (x6+(x1.length:Int))):Int).toNat x8) PV Mu (wrap64 (NO+1))) else(none)) else(none))
end
def Bb.f (k:Nat) (l0 l1:List Int):Option (List Int):=if 0<=(wrap64 ((l0.length:Int)+(l1.length:Int))) then(if(wrap64 ((l0.length:Int)+(l1.length:Int)):Int).toNat<=35184372088832 then(Bb.l0 k l1 (List.replicate (wrap64 ((l0.length:Int)+(l1.length:Int)):Int).toNat 0) l0 (l0.length:Int) 0) else(none)) else(none)
/-! ### nat_Sub: function 62 -/
def C9.l0:Nat->List Int->List Int->Int->List Int->Int->Int->Option (List Int × Bool)
 | 0,_,_,_,_,_,_=>none
 | k+1,x1,x6,x7,x18,qY,Xm=>if Xm<qY then(if 0<=Xm then(if Xm<(x18.length:Int) then(if Xm<(x1.length:Int) then((EE.f (rd x18 Xm) (rd x1 Xm) x7).bind λAD7=>(if x6.length<17592186044416 then(C9.l0 k x1 (x6++ [AD7.1]) AD7.2 x18 qY (wrap64 (Xm+1))) else(none))) else((EE.f (rd x18 Xm) 0 x7).bind λAD8=>(if x6.length<17592186044416 then(C9.l0 k x1 (x6++ [AD8.1]) AD8.2 x18 qY (wrap64 (Xm+1))) else(none)))) else(none)) else(none)) else((Ah.f k x6).bind λAKG=>(some (AKG,true)))
def C9.f (k:Nat) (l0 l1:List Int):Option (List Int × Bool):=(Dv.f k l0 l1).bind λAKH=>(if AKH<0 then(some (([]:List Int),false)) else(if 0<=(l0.length:Int) then(if((l0.length:Int):Int).toNat<=35184372088832 then(C9.l0 k l1 (List.replicate 0 0) 0 l0 (l0.length:Int) 0) else(none)) else(none)))
/-! ### nat_Add: function 111 -/
mutual
def BH.l0:Nat->List Int->List Int->Int->List Int->Int->Int->Option (List Int)
 | 0,_,_,_,_,_,_=>none
 | k+1,x1,x5,x6,PV,Mu,NO=>if NO<Mu then(if 0<=NO then(if NO<(PV.length:Int) then(if NO<(x1.length:Int) then((DU.f (rd PV NO) (rd x1 NO) x6).bind λAD9=>(if x5.length<17592186044416 then(BH.l0 k x1 (x5++ [AD9.1]) AD9.2 PV Mu (wrap64 (NO+1))) else(none))) else((DU.f (rd PV NO) 0 x6).bind λAEA=>(if x5.length<17592186044416 then(BH.l0 k x1 (x5++ [AEA.1]) AEA.2 PV Mu (wrap64 (NO+1))) else(none)))) else(none)) else(none)) else(if x5.length<17592186044416 then((Ah.f k (x5++ [x6])).bind λAKI=>(some AKI)) else(none))
def BH.l1:Nat->List Int->List Int->Int->List Int->Int->Int->Option (List Int)
 | 0,_,_,_,_,_,_=>none
 | k+1,x1,x5,x6,PV,Mu,NO=>if NO<Mu then(if 0<=NO then(if NO<(PV.length:Int) then(if NO<(x1.length:Int) then((DU.f (rd PV NO) (rd x1 NO) x6).bind λAEB=>(if x5.length<17592186044416 then(BH.l1 k x1 (x5++ [AEB.1]) AEB.2 PV Mu (wrap64 (NO+1))) else(none))) else((DU.f (rd PV NO) 0 x6).bind λAEC=>(if x5.length<17592186044416 then(BH.l1 k x1 (x5++ [AEC.1]) AEC.2 PV Mu (wrap64 (NO+1))) else(none)))) else(none)) else(none)) else(if x5.length<17592186044416 then((Ah.f k (x5++ [x6])).bind λAKJ=>(some AKJ)) else(none))
end
def BH.f (k:Nat) (l0 l1:List Int):Option (List Int):=if(l0.length:Int)<(l1.length:Int) then(if 0<=(wrap64 ((l1.length:Int)+1)) then(if(wrap64 ((l1.length:Int)+1):Int).toNat<=35184372088832 then(BH.l0 k l0 (List.replicate 0 0) 0 l1 (l1.length:Int) 0) else(none)) else(none)) else(if 0<=(wrap64 ((l0.length:Int)+1)) then(if(wrap64 ((l0.length:Int)+1):Int).toNat<=35184372088832 then(BH.l1 k l1 (List.replicate 0 0) 0 l0 (l0.length:Int) 0) else(none)) else(none))
/-! ### prod_part: function 160 -/
def EV.f (k:Nat) (l0:List Int) (a1 a2:Int):Option (List Int):=if 0<=(mn a1 (l0.length:Int)) then(if(mn a1 (l0.length:Int))<=(mn a2 (l0.length:Int)) then(if(mn a2 (l0.length:Int))<=(l0.length:Int) then((Ah.f k ((l0.take ((mn a2 (l0.length:Int)):Int).toNat).drop ((mn a1 (l0.length:Int)):Int).toNat)).bind λAFq=>(some AFq)) else(none)) else(none)) else(none)
/-! ### prod_above: function 161 -/
def D5.f (k:Nat) (l0:List Int) (a1:Int):Option (List Int):=if 0<=a1 then(if(a1:Int).toNat<=35184372088832 then((some (List.replicate (a1:Int).toNat 0:List Int)).bind λAHS=>(if AHS.length+l0.length<17592186044416 then((Ah.f k (AHS++l0)).bind λAKK=>(some AKK)) else(none))) else(none)) else(none)
/-! ### prod_halves: function 145 -/
def IW.f (M:List Int->List Int->Option (List Int)) (k:Nat) (l0 l1:List Int):Option (List Int):=(EV.f k l0 0 (wrap64 (Int.tdiv (wrap64 ((mx (l0.length:Int) (l1.length:Int))+1)) 2))).bind λADE=>((EV.f k l0 (wrap64 (Int.tdiv (wrap64 ((mx (l0.length:Int) (l1.length:Int))+1)) 2)) (l0.length:Int)).bind λAHT=>((EV.f k l1 0 (wrap64 (Int.tdiv (wrap64 ((mx (l0.length:Int) (l1.length:Int))+1)) 2))).bind λAHU=>((EV.f k l1 (wrap64 (Int.tdiv (wrap64 ((mx (l0.length:Int) (l1.length:Int))+1)) 2)) (l1.length:Int)).bind λADF=>((M ADE AHU).bind λAA9=>((M AHT ADF).bind λADG=>((BH.f k ADE AHT).bind λAKL=>((BH.f k AHU ADF).bind λAKM=>((M AKL AKM).bind λAKN=>((BH.f k AA9 ADG).bind λAKO=>((C9.f k AKN AKO).bind λAHV=>((D5.f k AHV.1 (wrap64 (Int.tdiv (wrap64 ((mx (l0.length:Int) (l1.length:Int))+1)) 2))).bind λAKP=>((D5.f k ADG (wrap64 (2*(wrap64 (Int.tdiv (wrap64 ((mx (l0.length:Int) (l1.length:Int))+1)) 2))))).bind λAKQ=>((BH.f k AKP AKQ).bind λAFr=>((BH.f k AA9 AFr).bind λAKR=>(some AKR)))))))))))))))
/-! ### prod_Mul: function 71 -/
def DV.f:Nat->List Int->List Int->Option (List Int)
 | 0,_,_=>none
 | k+1,l0,l1=>if(l0.length:Int)<8 then((Bb.f k l0 l1).bind λAFs=>(some AFs)) else(if(l1.length:Int)<8 then((Bb.f k l0 l1).bind λAKS=>(some AKS)) else((IW.f (DV.f k) k l0 l1).bind λAKT=>(some AKT)))
/-! ### nat_Right: function 54 -/
def G9.f (l0:List Int):Option (Bool):=if(l0.length:Int)=0 then(some true) else(if 0<=(wrap64 ((l0.length:Int)-1)) then(if(wrap64 ((l0.length:Int)-1))<(l0.length:Int) then(some ((rd l0 (wrap64 ((l0.length:Int)-1))) !=0)) else(none)) else(none))
/-! ### rat_same: function 156 -/
def LP.f (k:Nat) (l0 l1:List Int):Option (Bool):=(G9.f l0).bind λAKU=>(if AKU=true then((G9.f l1).bind λADH=>(if ADH=true then((Dv.f k l0 l1).bind λADI=>(some (ADI==0))) else(some false))) else(some false))
/-! ### rat_sum: function 157 -/
def MI.f (k:Nat) (a0:Bool) (l1:List Int) (a2:Bool) (l3:List Int):Option (Bool × List Int):=if(a0==a2)=true then((BH.f k l1 l3).bind λAFt=>(some (a0,AFt))) else((C9.f k l1 l3).bind λAED=>(if AED.2=true then(some (a0,AED.1)) else((C9.f k l3 l1).bind λAHW=>(some (a2,AHW.1)))))
/-! ### rat_one: function 155 -/
def Ks.f  :Option (List Int):=some (([1]:List Int))
/-! ### rat_safe: function 158 -/
def Gr.f (k:Nat) (l0:List Int):Option (List Int):=(Ce.f k l0).bind λAKV=>(if AKV=0 then((Ks.f).bind λAFu=>(some AFu)) else(some l0))
/-! ### rat_Add: function 112 -/
def Iw.f (k:Nat) (Hv:Bool) (JH Jb:List Int) (ED:Bool) (Yi Ww:List Int):Option (Bool × List Int × List Int):=(LP.f k Jb Ww).bind λAKW=>(if AKW=true then((MI.f k Hv JH ED Yi).bind λAEE=>((Gr.f k Jb).bind λAFv=>((Ei.f k AEE.1 AEE.2 AFv).bind λABA=>(some (ABA.1,ABA.2.1,ABA.2.2))))) else((DV.f k JH Ww).bind λAKX=>((DV.f k Yi Jb).bind λAKY=>((MI.f k Hv AKX ED AKY).bind λAEF=>((DV.f k Jb Ww).bind λAKZ=>((Gr.f k AKZ).bind λAKa=>((Ei.f k AEF.1 AEF.2 AKa).bind λABB=>(some (ABB.1,ABB.2.1,ABB.2.2)))))))))
/-! ### rat_Mul: function 116 -/
def Im.f (k:Nat) (Hv:Bool) (JH Jb:List Int) (ED:Bool) (Yi Ww:List Int):Option (Bool × List Int × List Int):=(Gr.f k Ww).bind λAKb=>((FF.f k JH AKb).bind λAEG=>((Gr.f k Jb).bind λAKc=>((FF.f k Yi AKc).bind λAEH=>((DV.f k AEG.1 AEH.1).bind λAKd=>((DV.f k AEH.2 AEG.2).bind λAKe=>((Ei.f k (Hv !=ED) AKd AKe).bind λABC=>(some (ABC.1,ABC.2.1,ABC.2.2))))))))
/-! ### rat_Neg: function 118 -/
def Jr.f (k:Nat) (Hv:Bool) (JH Jb:List Int):Option (Bool × List Int × List Int):=if Hv=true then((Ah.f k JH).bind λAHX=>((Ah.f k Jb).bind λABD=>(some (false,AHX,ABD)))) else((Ce.f k JH).bind λABE=>((Ah.f k JH).bind λAHY=>((Ah.f k Jb).bind λAHZ=>(some (decide (ABE>0),AHY,AHZ)))))
/-! ### rat_Sub: function 114 -/
def Js.f (k:Nat) (Hv:Bool) (JH Jb:List Int) (ED:Bool) (Yi Ww:List Int):Option (Bool × List Int × List Int):=(Jr.f k ED Yi Ww).bind λsM=>((Iw.f k Hv JH Jb sM.1 sM.2.1 sM.2.2).bind λsN=>(some (sN.1,sN.2.1,sN.2.2)))
/-! ### rat_Inv: function 109 -/
def OH.f (k:Nat) (Hv:Bool) (JH Jb:List Int):Option (Bool × List Int × List Int × Int):=(Ce.f k JH).bind λAKf=>(if AKf=0 then(some (false,([]:List Int),([]:List Int),4)) else((Ah.f k Jb).bind λAKg=>((Ah.f k JH).bind λAKh=>(some (Hv,AKg,AKh,0)))))
/-! ### rat_Div: function 108 -/
def Jt.f (k:Nat) (Hv:Bool) (JH Jb:List Int) (ED:Bool) (Yi Ww:List Int):Option (Bool × List Int × List Int × Int):=(OH.f k ED Yi Ww).bind λoR=>(if oR.2.2.2=0 then((Im.f k Hv JH Jb oR.1 oR.2.1 oR.2.2.1).bind λABF=>(some (ABF.1,ABF.2.1,ABF.2.2,0))) else(some (false,([]:List Int),([]:List Int),oR.2.2.2)))
/-! ### bank_Bank_exact: function by hand -/
def DS.f (k:Nat) (Af Al:Int) (Ai:List (Int × Int × Int × Bool × (List Int) × List Int)) (Ar Ao:List Bool) (Ap Au:Int) (Aw:Bool) (Av a1:Int) (GL:Bool) (HD HF:List Int) (VK:Bool) (VL VM:List Int):Option (Bool × List Int × List Int × Int × Int × List (Int × Int × Int × Bool × (List Int) × List Int) × List Bool × List Bool × Int × Int × Bool × Int):=if a1=3 then((Jr.f k GL HD HF).bind λAS=>(some (AS.1,AS.2.1,AS.2.2,Af,Al,Ai,Ar,Ao,Ap,Au,Aw,Av))) else(if a1=4 then((Iw.f k GL HD HF VK VL VM).bind λCZ=>(some (CZ.1,CZ.2.1,CZ.2.2,Af,Al,Ai,Ar,Ao,Ap,Au,Aw,Av))) else(if a1=5 then((Js.f k GL HD HF VK VL VM).bind λKW=>(some (KW.1,KW.2.1,KW.2.2,Af,Al,Ai,Ar,Ao,Ap,Au,Aw,Av))) else(if a1=6 then((Im.f k GL HD HF VK VL VM).bind λC3=>(some (C3.1,C3.2.1,C3.2.2,Af,Al,Ai,Ar,Ao,Ap,Au,Aw,Av))) else(if a1=7 then((Jt.f k GL HD HF VK VL VM).bind λHG=>((A7.f k Af Al Ai Ar Ao Ap Au Aw Av HG.2.2.2).bind λFl=>(some (HG.1,HG.2.1,HG.2.2.1,Fl.1,Fl.2.1,Fl.2.2.1,Fl.2.2.2.1,Fl.2.2.2.2.1,Fl.2.2.2.2.2.1,Fl.2.2.2.2.2.2.1,Fl.2.2.2.2.2.2.2.1,Fl.2.2.2.2.2.2.2.2)))) else((A7.f k Af Al Ai Ar Ao Ap Au Aw Av 6).bind λIJ=>(some (false,([]:List Int),([]:List Int),IJ.1,IJ.2.1,IJ.2.2.1,IJ.2.2.2.1,IJ.2.2.2.2.1,IJ.2.2.2.2.2.1,IJ.2.2.2.2.2.2.1,IJ.2.2.2.2.2.2.2.1,IJ.2.2.2.2.2.2.2.2)))))))
/-! ### fbits_exponent: function 85 -/
def Cy.f (a0:Int):Option (Int):=some (wrap64 (Go.bits .and .u64 (a0/4503599627370496) 2047))
/-! ### fbits_Kind: function 39 -/
def A9.f (a0:Int):Option (Int):=(Cy.f a0).bind λAHa=>(if AHa=2047 then(if(Go.bits .and .u64 a0 4503599627370495)=0 then(some 3) else(some 4)) else(if AHa=0 then(if(Go.bits .and .u64 a0 4503599627370495)=0 then(some 0) else(some 1)) else(some 2)))
/-! ### fbits_Nan: function 32 -/
def Bq.f  :Option (Int):=some 9221120237041090560
/-! ### fbits_Flip: function 45 -/
def FB.f (a0:Int):Option (Int):=(A9.f a0).bind λAHb=>(if AHb=4 then((Bq.f).bind λAHc=>(some AHc)) else(some (Go.bits .xor .u64 a0 9223372036854775808)))
/-! ### fbits_signed: function 86 -/
def C1.f (a0:Bool) (a1:Int):Option (Int):=if a0=true then(some (Go.bits .or .u64 a1 9223372036854775808)) else(some a1)
/-! ### fbits_Inf: function 34 -/
def CH.f (a0:Bool):Option (Int):=(C1.f a0 9218868437227405312).bind λAKi=>(some AKi)
/-! ### fbits_Make: function 25 -/
mutual
def BA.j0 (k:Nat) (x0:Bool) (x1 x2:Int) (qY:Bool):Option (Int × Bool):=if qY=true then(some (0,false)) else((BC.f k x1).bind λxM=>(if(mx (wrap64 ((wrap64 (x2+xM))-53)) (-1074))>971 then(BA.j1 k x0 x1 (mx (wrap64 ((wrap64 (x2+xM))-53)) (-1074)) (wrap64 ((mx (wrap64 ((wrap64 (x2+xM))-53)) (-1074))-x2)) true) else(BA.j1 k x0 x1 (mx (wrap64 ((wrap64 (x2+xM))-53)) (-1074)) (wrap64 ((mx (wrap64 ((wrap64 (x2+xM))-53)) (-1074))-x2)) (decide ((wrap64 ((mx (wrap64 ((wrap64 (x2+xM))-53)) (-1074))-x2))>=64)))))
def BA.j2 (k:Nat) (x0:Bool) (x1 x8:Int):Option (Int × Bool):=if x1<4503599627370496 then((C1.f x0 x1).bind λAKj=>(some (AKj,true))) else((C1.f x0 (Go.bits .or .u64 (IntKind.u64.wrap ((IntKind.u64.wrap (wrap64 (x8+1075)))*4503599627370496)) (Go.bits .and .u64 x1 4503599627370495))).bind λAKk=>(some (AKk,true)))
def BA.j1 (k:Nat) (x0:Bool) (x1 x8 x9:Int) (x33:Bool):Option (Int × Bool):=if x33=true then(some (0,false)) else(if x9>0 then(if 0<=x9 then(if(shl .u64 (shr .u64 x1 x9) x9)=x1 then(BA.j2 k x0 (shr .u64 x1 x9) x8) else(some (0,false))) else(none)) else(if 0<=(wrap64 (-x9)) then(BA.j2 k x0 (shl .u64 x1 (wrap64 (-x9))) x8) else(none)))
end
def BA.f (k:Nat) (a0:Bool) (a1 a2:Int):Option (Int × Bool):=if a1=0 then((C1.f a0 0).bind λAKl=>(some (AKl,true))) else(if a2>2000 then(BA.j0 k a0 a1 a2 true) else(BA.j0 k a0 a1 a2 (decide (a2<(-2000)))))
/-! ### fround_made: function 92 -/
def CO.f (k:Nat) (a0:Bool) (a1 a2:Int):Option (Int):=(BA.f k a0 a1 a2).bind λAEI=>(if AEI.2=true then(some AEI.1) else((CH.f a0).bind λAKm=>(some AKm)))
/-! ### fround_even: function 93 -/
def EL.f (a0:Int) (a1 a2:Bool):Option (Int):=if a1=true then(if a2=true then(some (IntKind.u64.wrap (a0+1))) else(if(Go.bits .and .u64 a0 1)=1 then(some (IntKind.u64.wrap (a0+1))) else(some a0))) else(some a0)
/-! ### fround_Word: function 36 -/
def At.f (k:Nat) (a0:Bool) (a1 a2:Int):Option (Int):=if a1=0 then((CO.f k a0 0 0).bind λAKn=>(some AKn)) else((BC.f k a1).bind λYj=>(if(mx (wrap64 ((wrap64 (Yj+(mn (mx a2 (-1099511627776)) 1099511627776)))-53)) (-1074))>971 then((CH.f a0).bind λAKo=>(some AKo)) else(if(wrap64 ((mx (wrap64 ((wrap64 (Yj+(mn (mx a2 (-1099511627776)) 1099511627776)))-53)) (-1074))-(mn (mx a2 (-1099511627776)) 1099511627776)))<=0 then(if 0<=(wrap64 (-(wrap64 ((mx (wrap64 ((wrap64 (Yj+(mn (mx a2 (-1099511627776)) 1099511627776)))-53)) (-1074))-(mn (mx a2 (-1099511627776)) 1099511627776))))) then((CO.f k a0 (shl .u64 a1 (wrap64 (-(wrap64 ((mx (wrap64 ((wrap64 (Yj+(mn (mx a2 (-1099511627776)) 1099511627776)))-53)) (-1074))-(mn (mx a2 (-1099511627776)) 1099511627776)))))) (mx (wrap64 ((wrap64 (Yj+(mn (mx a2 (-1099511627776)) 1099511627776)))-53)) (-1074))).bind λAKp=>(some AKp)) else(none)) else(if(wrap64 ((mx (wrap64 ((wrap64 (Yj+(mn (mx a2 (-1099511627776)) 1099511627776)))-53)) (-1074))-(mn (mx a2 (-1099511627776)) 1099511627776)))>64 then((CO.f k a0 0 0).bind λAKq=>(some AKq)) else(if 0<=(wrap64 (64-(wrap64 ((mx (wrap64 ((wrap64 (Yj+(mn (mx a2 (-1099511627776)) 1099511627776)))-53)) (-1074))-(mn (mx a2 (-1099511627776)) 1099511627776))))) then(if 0<=(wrap64 ((wrap64 ((mx (wrap64 ((wrap64 (Yj+(mn (mx a2 (-1099511627776)) 1099511627776)))-53)) (-1074))-(mn (mx a2 (-1099511627776)) 1099511627776)))-1)) then((EL.f (shr .u64 (a1/2) (wrap64 ((wrap64 ((mx (wrap64 ((wrap64 (Yj+(mn (mx a2 (-1099511627776)) 1099511627776)))-53)) (-1074))-(mn (mx a2 (-1099511627776)) 1099511627776)))-1))) (((shl .u64 a1 (wrap64 (64-(wrap64 ((mx (wrap64 ((wrap64 (Yj+(mn (mx a2 (-1099511627776)) 1099511627776)))-53)) (-1074))-(mn (mx a2 (-1099511627776)) 1099511627776))))))/9223372036854775808)==1) ((IntKind.u64.wrap ((shl .u64 a1 (wrap64 (64-(wrap64 ((mx (wrap64 ((wrap64 (Yj+(mn (mx a2 (-1099511627776)) 1099511627776)))-53)) (-1074))-(mn (mx a2 (-1099511627776)) 1099511627776))))))*2)) !=0)).bind λAKr=>((CO.f k a0 AKr (mx (wrap64 ((wrap64 (Yj+(mn (mx a2 (-1099511627776)) 1099511627776)))-53)) (-1074))).bind λAKs=>(some AKs))) else(none)) else(none))))))
/-! ### fsum_odd: function 146 -/
def J7.f (a0 a1:Int):Option (Int):=if a1>63 then(some (mn a0 1)) else(if 0<=a1 then(if(shl .u64 (shr .u64 a0 a1) a1)=a0 then(some (shr .u64 a0 a1)) else(some (Go.bits .or .u64 (shr .u64 a0 a1) 1))) else(none))
/-! ### fsum_finite: function 104 -/
def C6.j0 (k:Nat) (bP:Bool) (Qe E5:Int) (oT:Bool) (ABG Gs:Int):Option (Int):=if 0<=(mn (wrap64 (E5-Gs)) 10) then((J7.f ABG (wrap64 ((wrap64 (E5-(mn (wrap64 (E5-Gs)) 10)))-Gs))).bind λoU=>(if(bP==oT)=true then((At.f k bP (IntKind.u64.wrap ((IntKind.u64.wrap (Qe*2^(mn (wrap64 (E5-Gs)) 10).toNat))+oU)) (wrap64 (E5-(mn (wrap64 (E5-Gs)) 10)))).bind λAHd=>(some AHd)) else(if(IntKind.u64.wrap (Qe*2^(mn (wrap64 (E5-Gs)) 10).toNat))>oU then((At.f k bP (IntKind.u64.wrap ((IntKind.u64.wrap (Qe*2^(mn (wrap64 (E5-Gs)) 10).toNat))-oU)) (wrap64 (E5-(mn (wrap64 (E5-Gs)) 10)))).bind λAHe=>(some AHe)) else(if(IntKind.u64.wrap (Qe*2^(mn (wrap64 (E5-Gs)) 10).toNat))<oU then((At.f k oT (IntKind.u64.wrap (oU-(IntKind.u64.wrap (Qe*2^(mn (wrap64 (E5-Gs)) 10).toNat)))) (wrap64 (E5-(mn (wrap64 (E5-Gs)) 10)))).bind λAHf=>(some AHf)) else(some 0))))) else(none)
def C6.f (k:Nat) (Hv:Bool) (oH oV:Int) (ED:Bool) (Hi GJ:Int):Option (Int):=if oV<GJ then(C6.j0 k ED Hi GJ Hv oH oV) else(C6.j0 k Hv oH oV ED Hi GJ)
/-! ### fbits_Neg: function 41 -/
def CG.f (a0:Int):Option (Bool):=some ((Go.bits .and .u64 a0 9223372036854775808) !=0)
/-! ### fbits_Parts: function 24 -/
def Ax.j0 (k:Nat) (x0 x6 LB:Int) (Kr:Bool):Option (Bool × Int × Int × Bool):=if Kr=true then(some (false,0,0,false)) else(if LB=2 then((CG.f x0).bind λAKt=>((Cy.f x0).bind λAKu=>(some (AKt,Go.bits .or .u64 x6 4503599627370496,wrap64 (AKu-1075),true)))) else((CG.f x0).bind λAKv=>(some (AKv,x6,(-1074),true))))
def Ax.f (k:Nat) (a0:Int):Option (Bool × Int × Int × Bool):=(A9.f a0).bind λABH=>(if ABH=3 then(Ax.j0 k a0 (Go.bits .and .u64 a0 4503599627370495) ABH (ABH==3)) else(Ax.j0 k a0 (Go.bits .and .u64 a0 4503599627370495) ABH (ABH==4)))
/-! ### fsum_of: function 105 -/
def Lw.f (k:Nat) (a0:Int):Option (Bool × Int × Int):=(Ax.f k a0).bind λsO=>(some (sO.1,sO.2.1,sO.2.2.1))
/-! ### fsum_Add: function 55 -/
mutual
def BK.j0:Nat->Int->Int->Int->Int->Bool->Option (Int)
 | 0,_,_,_,_,_=>none
 | k+1,x0,x1,x5,x6,Kr=>if Kr=true then((Bq.f).bind λAHg=>(some AHg)) else(if x5=3 then(if x6=3 then(BK.j1 k x0 x1 x5 x6 (x0 !=x1)) else(BK.j1 k x0 x1 x5 x6 false)) else(BK.j1 k x0 x1 x5 x6 false))
def BK.j1:Nat->Int->Int->Int->Int->Bool->Option (Int)
 | 0,_,_,_,_,_=>none
 | k+1,x0,x1,x5,x6,qY=>if qY=true then((Bq.f).bind λAHh=>(some AHh)) else(if x5=3 then(some x0) else(if x6=3 then(some x1) else((Lw.f k x0).bind λsP=>((Lw.f k x1).bind λsQ=>((C6.f k sP.1 sP.2.1 sP.2.2 sQ.1 sQ.2.1 sQ.2.2).bind λAHi=>(some AHi))))))
end
def BK.f (k:Nat) (a0 a1:Int):Option (Int):=(A9.f a0).bind λABI=>((A9.f a1).bind λABJ=>(if ABI=4 then(BK.j0 k a0 a1 ABI ABJ true) else(BK.j0 k a0 a1 ABI ABJ (ABJ==4))))
/-! ### fsum_Sub: function 57 -/
def GG.f (k:Nat) (a0 a1:Int):Option (Int):=(FB.f a1).bind λAHj=>((BK.f k a0 AHj).bind λAHk=>(some AHk))
/-! ### fprod_Mul: function 66 -/
mutual
def Ae.j0:Nat->Int->Int->Int->Int->Bool->Bool->Option (Int)
 | 0,_,_,_,_,_,_=>none
 | k+1,x0,x1,x5,x6,x7,gC=>if gC=true then((Bq.f).bind λAHl=>(some AHl)) else(if x5=3 then(Ae.j1 k x0 x1 x5 x6 x7 true) else(Ae.j1 k x0 x1 x5 x6 x7 (x6==3)))
def Ae.j1:Nat->Int->Int->Int->Int->Bool->Bool->Option (Int)
 | 0,_,_,_,_,_,_=>none
 | k+1,x0,x1,x5,x6,x7,x37=>if x37=true then(if x5=0 then(Ae.j2 k x7 true) else(Ae.j2 k x7 (x6==0))) else((Ax.f k x0).bind λkD=>((Ax.f k x1).bind λkE=>((DF.f kD.2.1 kE.2.1).bind λT3=>((BC.f k T3.1).bind λS5=>(if S5=0 then((At.f k x7 T3.2 (wrap64 (kD.2.2.1+kE.2.2.1))).bind λAHm=>(some AHm)) else(if 0<=(wrap64 (64-S5)) then(if 0<=S5 then(if(shl .u64 T3.2 (wrap64 (64-S5)))=0 then((At.f k x7 (Go.bits .or .u64 (shl .u64 T3.1 (wrap64 (64-S5))) (shr .u64 T3.2 S5)) (wrap64 ((wrap64 (kD.2.2.1+kE.2.2.1))+S5))).bind λAHn=>(some AHn)) else((At.f k x7 (Go.bits .or .u64 (Go.bits .or .u64 (shl .u64 T3.1 (wrap64 (64-S5))) (shr .u64 T3.2 S5)) 1) (wrap64 ((wrap64 (kD.2.2.1+kE.2.2.1))+S5))).bind λAHo=>(some AHo))) else(none)) else(none)))))))
def Ae.j2:Nat->Bool->Bool->Option (Int)
 | 0,_,_=>none
 | k+1,x7,x49=>if x49=true then((Bq.f).bind λAHp=>(some AHp)) else((CH.f x7).bind λAHq=>(some AHq))
end
def Ae.f (k:Nat) (a0 a1:Int):Option (Int):=(A9.f a0).bind λABK=>((A9.f a1).bind λABL=>((CG.f a0).bind λAEJ=>((CG.f a1).bind λAEK=>(if ABK=4 then(Ae.j0 k a0 a1 ABK ABL (!(AEJ==AEK)) true) else(Ae.j0 k a0 a1 ABK ABL (!(AEJ==AEK)) (ABL==4))))))
/-! ### fprod_signed: function 121 -/
def E0.f (k:Nat) (a0:Bool):Option (Int):=(BA.f k a0 0 0).bind λAFw=>(some AFw.1)
/-! ### fprod_Div: function 68 -/
mutual
def BP.j0:Nat->Int->Int->Int->Int->Bool->Bool->Option (Int)
 | 0,_,_,_,_,_,_=>none
 | k+1,x0,x1,x5,x6,x7,oQ=>if oQ=true then((Bq.f).bind λAHr=>(some AHr)) else(if x5=3 then(BP.j1 k x0 x1 x5 x6 x7 true) else(BP.j1 k x0 x1 x5 x6 x7 (x6==0)))
def BP.j1:Nat->Int->Int->Int->Int->Bool->Bool->Option (Int)
 | 0,_,_,_,_,_,_=>none
 | k+1,x0,x1,x5,x6,x7,x51=>if x51=true then((CH.f x7).bind λAHs=>(some AHs)) else(if x5=0 then((E0.f k x7).bind λAHt=>(some AHt)) else(if x6=3 then((E0.f k x7).bind λAHu=>(some AHu)) else((Ax.f k x0).bind λkF=>((Ax.f k x1).bind λkG=>((BC.f k kF.2.1).bind λvC=>((BC.f k kG.2.1).bind λvE=>(if 0<=(wrap64 (63-vC)) then(if 0<=(wrap64 (64-vE)) then((Gq.f k (shl .u64 kF.2.1 (wrap64 (63-vC))) 0 (shl .u64 kG.2.1 (wrap64 (64-vE)))).bind λsR=>(if sR.2.1=0 then((At.f k x7 sR.1 (wrap64 ((wrap64 ((wrap64 ((wrap64 (kF.2.2.1-(wrap64 (63-vC))))-kG.2.2.1))+(wrap64 (64-vE))))-64))).bind λAHv=>(some AHv)) else((At.f k x7 (Go.bits .or .u64 sR.1 1) (wrap64 ((wrap64 ((wrap64 ((wrap64 (kF.2.2.1-(wrap64 (63-vC))))-kG.2.2.1))+(wrap64 (64-vE))))-64))).bind λAHw=>(some AHw)))) else(none)) else(none))))))))
end
def BP.f (k:Nat) (a0 a1:Int):Option (Int):=(A9.f a0).bind λVN=>((A9.f a1).bind λbQ=>((CG.f a0).bind λoW=>((CG.f a1).bind λoX=>(if VN=4 then(BP.j0 k a0 a1 VN bQ (!(oW==oX)) true) else(if bQ=4 then(BP.j0 k a0 a1 VN bQ (!(oW==oX)) true) else(if VN=bQ then(if VN=3 then(BP.j0 k a0 a1 VN bQ (!(oW==oX)) true) else(BP.j0 k a0 a1 VN bQ (!(oW==oX)) (VN==0))) else(BP.j0 k a0 a1 VN bQ (!(oW==oX)) false)))))))
/-! ### fprod_root: function 219 -/
def Bz.l0:Nat->Int->Int->Int->Option (Int × Bool)
 | 0,_,_,_=>none
 | k+1,x0,x4,x5=>if x5>0 then((DF.f (Go.bits .or .u64 x4 x5) (Go.bits .or .u64 x4 x5)).bind λsS=>(if sS.1<x0 then(Bz.l0 k x0 (Go.bits .or .u64 x4 x5) (x5/2)) else(if sS.1=x0 then(if sS.2=0 then(Bz.l0 k x0 (Go.bits .or .u64 x4 x5) (x5/2)) else(Bz.l0 k x0 x4 (x5/2))) else(Bz.l0 k x0 x4 (x5/2))))) else((DF.f x4 x4).bind λABM=>(if ABM.1=x0 then(some (x4,(ABM.2==0))) else(some (x4,false))))
def Bz.f (k:Nat) (a0:Int):Option (Int × Bool):=Bz.l0 k a0 0 9223372036854775808
/-! ### fprod_Sqrt: function 149 -/
def B6.j0:Nat->Int->Int->Int->Option (Int)
 | 0,_,_,_=>none
 | k+1,x4,x5,x7=>if 0<=(wrap64 (x7-64)) then((Bz.f k (shl .u64 x4 (wrap64 (x7-64)))).bind λsU=>(if sU.2=true then((At.f k false sU.1 (wrap64 (Int.tdiv (wrap64 (x5-x7)) 2))).bind λAHx=>(some AHx)) else((At.f k false (Go.bits .or .u64 sU.1 1) (wrap64 (Int.tdiv (wrap64 (x5-x7)) 2))).bind λAHy=>(some AHy)))) else(none)
def B6.f (k:Nat) (a0:Int):Option (Int):=(A9.f a0).bind λABN=>(if ABN=4 then((Bq.f).bind λAHz=>(some AHz)) else(if ABN=3 then((CG.f a0).bind λAH0=>(if AH0=true then((Bq.f).bind λAH1=>(some AH1)) else(some a0))) else(if ABN=0 then(some a0) else((CG.f a0).bind λAH2=>(if AH2=true then((Bq.f).bind λAH3=>(some AH3)) else((Ax.f k a0).bind λWx=>((BC.f k Wx.2.1).bind λABO=>(if(Go.bits .and .i64 (wrap64 (Wx.2.2.1-(wrap64 (126-ABO)))) 1)=0 then(B6.j0 k Wx.2.1 Wx.2.2.1 (wrap64 (126-ABO))) else(B6.j0 k Wx.2.1 Wx.2.2.1 (wrap64 ((wrap64 (126-ABO))-1)))))))))))
/-! ### fcmp_known: function 98 -/
def Gm.f (a0 a1:Int):Option (Bool):=(A9.f a0).bind λAH4=>(if AH4=4 then(some false) else((A9.f a1).bind λAH5=>(some (AH5 !=4))))
/-! ### fcmp_key: function 99 -/
def Iu.f (a0:Int):Option (Int):=(CG.f a0).bind λABD=>(if ABD=true then(some (wrap64 (-(wrap64 ((IntKind.u64.wrap (a0*2))/2))))) else(some (wrap64 ((IntKind.u64.wrap (a0*2))/2))))
/-! ### fcmp_Less: function 48 -/
def Du.f (a0 a1:Int):Option (Bool):=(Gm.f a0 a1).bind λAH6=>(if AH6=true then((Iu.f a0).bind λAH7=>((Iu.f a1).bind λABE=>(some (decide (AH7<ABE))))) else(some false))
/-! ### fcmp_Near: function 51 -/
mutual
def Br.j0:Nat->Bool->Int->Int->Bool->Option (Int × Bool)
 | 0,_,_,_,_=>none
 | k+1,x4,x5,x6,u9=>if u9=true then(some (0,false)) else(if x6>=0 then(if 0<=x6 then(if x4=true then(some (wrap64 (-(wrap64 (shl .u64 x5 x6))),true)) else(some (wrap64 (shl .u64 x5 x6),true))) else(none)) else(if x6>(-64) then(if 0<=(wrap64 (-x6)) then(if 0<=(wrap64 (64+x6)) then(if(shl .u64 x5 (wrap64 (64+x6)))>9223372036854775808 then(Br.j1 k x4 (wrap64 (shr .u64 x5 (wrap64 (-x6)))) true) else(if(shl .u64 x5 (wrap64 (64+x6)))=9223372036854775808 then(Br.j1 k x4 (wrap64 (shr .u64 x5 (wrap64 (-x6)))) ((Go.bits .and .i64 (wrap64 (shr .u64 x5 (wrap64 (-x6)))) 1)==1)) else(Br.j1 k x4 (wrap64 (shr .u64 x5 (wrap64 (-x6)))) false))) else(none)) else(none)) else(if x4=true then(some (-0,true)) else(some (0,true)))))
def Br.j1:Nat->Bool->Int->Bool->Option (Int × Bool)
 | 0,_,_,_=>none
 | k+1,x4,x8,x55=>if x55=true then(if x4=true then(some (wrap64 (-(wrap64 (x8+1))),true)) else(some (wrap64 (x8+1),true))) else(if x4=true then(some (wrap64 (-x8),true)) else(some (x8,true)))
end
def Br.f (k:Nat) (a0:Int):Option (Int × Bool):=(Ax.f k a0).bind λOP=>(if OP.2.2.2=true then((BC.f k OP.2.1).bind λAH8=>(Br.j0 k OP.1 OP.2.1 OP.2.2.1 (decide ((wrap64 (AH8+OP.2.2.1))>62)))) else(Br.j0 k OP.1 OP.2.1 OP.2.2.1 true))
/-! ### fbits_Clean: function 43 -/
def EK.f (a0:Int):Option (Int):=(A9.f a0).bind λAH9=>(if AH9=4 then((Bq.f).bind λAIA=>(some AIA)) else(some a0))
/-! ### fcmp_Scale: function 53 -/
def II.f (k:Nat) (a0 a1:Int):Option (Int):=(Ax.f k a0).bind λkH=>(if kH.2.2.2=true then((At.f k kH.1 kH.2.1 (wrap64 (kH.2.2.1+(mn (mx a1 (-5000)) 5000)))).bind λAIB=>(some AIB)) else((EK.f a0).bind λAIC=>(some AIC)))
/-! ### fround_FromInt: function 64 -/
def CY.f (k:Nat) (a0:Int):Option (Int):=if a0<0 then((At.f k true (IntKind.u64.wrap (-(IntKind.u64.wrap (a0)))) 0).bind λAKw=>(some AKw)) else((At.f k false (IntKind.u64.wrap (a0)) 0).bind λAKx=>(some AKx))
/-! ### kernel_part: function 126 -/
def Dl.f (k:Nat) (a0:Int):Option (Int):=(CY.f k a0).bind λAID=>((BP.f k 4607182418800017408 AID).bind λAIE=>(some AIE))
/-! ### kernel_Exp: function by hand -/
def BW.l1:Nat->Int->Int->List Int->Int->Int->Option (Int)
 | 0,_,_,_,_,_=>none
 | k+1,e,r,fs,p,i=>if i>=0 then((Ae.f k p r).bind λt=>(if 0<=i then(if i<14 then(if i<(fs.length:Int) then((Dl.f k (rd fs i)).bind λu=>((BK.f k t u).bind λv=>(BW.l1 k e r fs v (wrap64 (i-1))))) else none) else none) else none)) else((II.f k p e).bind λs=>(some s))
def BW.l0:Nat->Int->Int->List Int->Int->Option (Int)
 | 0,_,_,_,_=>none
 | k+1,e,r,fs,i=>if i<13 then(if 0<=(wrap64 (i+1)) then(if(wrap64 (i+1))<14 then(if(wrap64 (i+1))<(fs.length:Int) then(if 0<=i then(if i<14 then(if i<(fs.length:Int) then(BW.l0 k e r (fs.set ((wrap64 (i+1)):Int).toNat (wrap64 ((rd fs i)*(wrap64 (i+1))))) (wrap64 (i+1))) else none) else none) else none) else none) else none) else none) else(if(13:Int)<(fs.length:Int) then((Dl.f k (rd fs 13)).bind λp=>(BW.l1 k e r fs p 12)) else none)
def BW.f (k:Nat) (a0:Int):Option (Int):=(A9.f a0).bind λt0=>(if t0=4 then((Bq.f).bind λt=>(some t)) else((Du.f 4649456441864749056 a0).bind λt1=>(if t1=true then((CH.f false).bind λt=>(some t)) else((Du.f a0 13873145138068324352).bind λt2=>(if t2=true then(some 0) else((Ae.f k a0 4609176140021203710).bind λt3=>((Br.f k t3).bind λC3=>((CY.f k C3.1).bind λt5=>((Ae.f k t5 4604418534311723008).bind λt6=>((GG.f k a0 t6).bind λt7=>((Ae.f k t5 4461442080421002358).bind λt8=>((GG.f k t7 t8).bind λt9=>(BW.l0 k C3.1 t9 [1,0,0,0,0,0,0,0,0,0,0,0,0,0] 0)))))))))))))
/-! ### kernel_split: function 129 -/
def F4.f (k:Nat) (a0:Int):Option (Int × Int):=(Ax.f k a0).bind λbS=>((BC.f k bS.2.1).bind λvF=>((BA.f k false bS.2.1 (wrap64 (1-vF))).bind λABP=>((Du.f 4609047870845172685 ABP.1).bind λAIF=>(if AIF=true then((BA.f k false bS.2.1 (wrap64 (-vF))).bind λAFx=>(some (AFx.1,wrap64 (bS.2.2.1+vF)))) else(some (ABP.1,wrap64 ((wrap64 (bS.2.2.1+vF))-1)))))))
/-! ### kernel_Log: function 75 -/
mutual
def Be.j0:Nat->Int->Int->Bool->Option (Int)
 | 0,_,_,_=>none
 | k+1,x0,x3,Xm=>if Xm=true then((Bq.f).bind λAIH=>(some AIH)) else(if x3=3 then(some x0) else((F4.f k x0).bind λABQ=>((GG.f k ABQ.1 4607182418800017408).bind λAEL=>((BK.f k 4611686018427387904 AEL).bind λAII=>((BP.f k AEL AII).bind λABR=>((Ae.f k ABR ABR).bind λAIJ=>((Dl.f k 21).bind λAIK=>(Be.l0 k ABQ.2 ABR AIJ AIK 9))))))))
def Be.l0:Nat->Int->Int->Int->Int->Int->Option (Int)
 | 0,_,_,_,_,_=>none
 | k+1,x5,x7,x8,x9,LB=>if LB>0 then((Ae.f k x9 x8).bind λAIL=>((Dl.f k (wrap64 ((wrap64 (2*LB))+1))).bind λAIM=>((BK.f k AIL AIM).bind λAIN=>(Be.l0 k x5 x7 x8 AIN (wrap64 (LB-1)))))) else((BK.f k x7 x7).bind λAEM=>((Ae.f k x9 x8).bind λAIO=>((Ae.f k AEM AIO).bind λAIP=>((BK.f k AEM AIP).bind λAEN=>(if x5=0 then(some AEN) else((CY.f k x5).bind λAEO=>((Ae.f k AEO 4604418534311723008).bind λAIQ=>((Ae.f k AEO 4461442080421002358).bind λAIR=>((BK.f k AEN AIR).bind λAIS=>((BK.f k AIQ AIS).bind λAIT=>(some AIT)))))))))))
end
def Be.f (k:Nat) (a0:Int):Option (Int):=(A9.f a0).bind λvG=>(if vG=0 then((CH.f true).bind λAIU=>(some AIU)) else(if vG=4 then(Be.j0 k a0 vG true) else((CG.f a0).bind λAIV=>(Be.j0 k a0 vG AIV))))
/-! ### bank_double: function by hand -/
def Gn.f (k:Nat) (a0 a1 a2:Int):Option (Int):=if a0=3 then((FB.f a1).bind λt1=>(some t1)) else(if a0=4 then((BK.f k a1 a2).bind λt2=>(some t2)) else(if a0=5 then((GG.f k a1 a2).bind λt3=>(some t3)) else(if a0=6 then((Ae.f k a1 a2).bind λt4=>(some t4)) else(if a0=7 then((BP.f k a1 a2).bind λt5=>(some t5)) else(if a0=8 then((B6.f k a1).bind λt6=>(some t6)) else(if a0=9 then((BW.f k a1).bind λt7=>(some t7)) else((Be.f k a1).bind λt8=>(some t8))))))))
/-! ### bank_Bank_do: function by hand -/
mutual
def AL.uz:Nat->Bool->List Int->List Int->Int->Int->Bool->List Int->List Int->Int->Int->Int->Int->(List (Int × Int × Int × Bool × (List Int) × List Int))->List Bool->List Bool->Int->Int->Bool->Int->Option (Bool × List Int × List Int × Int × Int × Int × Int × List (Int × Int × Int × Bool × (List Int) × List Int) × List Bool × List Bool × Int × Int × Bool × Int)
 | 0,_,_,_,_,_,_,_,_,_,_,_,_,_,_,_,_,_,_,_=>none
 | k+1,Fq,GI,Qf,Qg,Qh,Qi,Qj,Qk,Ql,Qm,NP,NQ,NR,NS,NU,NV,NW,NY,MJ=>if MJ=0 then(some (Qi,Qj,Qk,Ql,Qm,NP,NQ,NR,NS,NU,NV,NW,NY,MJ)) else(some (false,([]:List Int),([]:List Int),0,0,NP,NQ,NR,NS,NU,NV,(wrap64 (NW-1)),NY,MJ))
def AL.j7:Nat->Int->Bool->Bool->List Int->List Int->Int->Int->Bool->List Int->List Int->Int->Int->Bool->List Int->List Int->Int->Int->Bool->List Int->List Int->Int->Int->Int->Int->(List (Int × Int × Int × Bool × (List Int) × List Int))->List Bool->List Bool->Int->Int->Bool->Int->Option (Bool × List Int × List Int × Int × Int × Int × Int × List (Int × Int × Int × Bool × (List Int) × List Int) × List Bool × List Bool × Int × Int × Bool × Int)
 | 0,_,_,_,_,_,_,_,_,_,_,_,_,_,_,_,_,_,_,_,_,_,_,_,_,_,_,_,_,_,_,_=>none
 | k+1,x1,x4,AIW,AIX,AIY,AIZ,ADJ,AIa,AIb,AIc,AId,AFy,Fq,GI,Qf,Qg,Qh,Qi,Qj,Qk,Ql,Qm,NP,NQ,NR,NS,NU,NV,NW,NY,MJ=>if x4=true then(AL.j10 k Fq GI Qf Qg Qh Qi Qj Qk Ql Qm x1 ADJ AFy false [] [] NP NQ NR NS NU NV NW NY MJ) else(AL.j10 k Fq GI Qf Qg Qh Qi Qj Qk Ql Qm x1 ADJ 0 false [] [] NP NQ NR NS NU NV NW NY MJ)
def AL.j10:Nat->Bool->List Int->List Int->Int->Int->Bool->List Int->List Int->Int->Int->Int->Int->Int->Bool->List Int->List Int->Int->Int->(List (Int × Int × Int × Bool × (List Int) × List Int))->List Bool->List Bool->Int->Int->Bool->Int->Option (Bool × List Int × List Int × Int × Int × Int × Int × List (Int × Int × Int × Bool × (List Int) × List Int) × List Bool × List Bool × Int × Int × Bool × Int)
 | 0,_,_,_,_,_,_,_,_,_,_,_,_,_,_,_,_,_,_,_,_,_,_,_,_,_=>none
 | k+1,Fq,GI,Qf,Qg,Qh,Qi,Qj,Qk,Ql,Qm,Xg,Xh,Xi,Xj,Xk,Xl,NP,NQ,NR,NS,NU,NV,NW,NY,MJ=>(Bj.f k NP NQ NR NS NU NV NW NY MJ Xg Xh Xi Xj Xk Xl).bind λFl=>(AL.uz k Fq GI Qf Qg Qh Fl.1 Fl.2.1 Fl.2.2.1 Fl.2.2.2.1 Fl.2.2.2.2.1 Fl.2.2.2.2.2.1 Fl.2.2.2.2.2.2.1 Fl.2.2.2.2.2.2.2.1 Fl.2.2.2.2.2.2.2.2.1 Fl.2.2.2.2.2.2.2.2.2.1 Fl.2.2.2.2.2.2.2.2.2.2.1 Fl.2.2.2.2.2.2.2.2.2.2.2.1 Fl.2.2.2.2.2.2.2.2.2.2.2.2.1 Fl.2.2.2.2.2.2.2.2.2.2.2.2.2)
end
def AL.f (k:Nat) (Af Al:Int) (Ai:List (Int × Int × Int × Bool × (List Int) × List Int)) (Ar Ao:List Bool) (Ap Au:Int) (Aw:Bool) (Av a1:Int) (GL:Bool) (HD HF:List Int) (I0 J9:Int) (VK:Bool) (VL VM:List Int) (kI oY:Int) (a4:Bool):Option (Bool × List Int × List Int × Int × Int × Int × Int × List (Int × Int × Int × Bool × (List Int) × List Int) × List Bool × List Bool × Int × Int × Bool × Int):=(BL.f k Af Al Ai Ar Ao Ap Au Aw Av).bind λAS=>(if AS.1=true then(some (false,([]:List Int),([]:List Int),0,0,AS.2.1,AS.2.2.1,AS.2.2.2.1,AS.2.2.2.2.1,AS.2.2.2.2.2.1,AS.2.2.2.2.2.2.1,AS.2.2.2.2.2.2.2.1,AS.2.2.2.2.2.2.2.2.1,AS.2.2.2.2.2.2.2.2.2)) else(if AS.2.1=0 then((DS.f k AS.2.1 AS.2.2.1 AS.2.2.2.1 AS.2.2.2.2.1 AS.2.2.2.2.2.1 AS.2.2.2.2.2.2.1 (wrap64 (AS.2.2.2.2.2.2.2.1+1)) AS.2.2.2.2.2.2.2.2.1 AS.2.2.2.2.2.2.2.2.2 a1 GL HD HF VK VL VM).bind λCZ=>(AL.uz k false [] [] 0 0 CZ.1 CZ.2.1 CZ.2.2.1 0 0 CZ.2.2.2.1 CZ.2.2.2.2.1 CZ.2.2.2.2.2.1 CZ.2.2.2.2.2.2.1 CZ.2.2.2.2.2.2.2.1 CZ.2.2.2.2.2.2.2.2.1 CZ.2.2.2.2.2.2.2.2.2.1 CZ.2.2.2.2.2.2.2.2.2.2.1 CZ.2.2.2.2.2.2.2.2.2.2.2)) else(if AS.2.1=1 then((Gn.f k a1 I0 kI).bind λt3=>(AL.uz k false [] [] 0 0 false ([]:List Int) ([]:List Int) t3 0 AS.2.1 AS.2.2.1 AS.2.2.2.1 AS.2.2.2.2.1 AS.2.2.2.2.2.1 AS.2.2.2.2.2.2.1 (wrap64 (AS.2.2.2.2.2.2.2.1+1)) AS.2.2.2.2.2.2.2.2.1 AS.2.2.2.2.2.2.2.2.2)) else((Bs.f k AS.2.1 AS.2.2.1 AS.2.2.2.1 AS.2.2.2.2.1 AS.2.2.2.2.2.1 AS.2.2.2.2.2.2.1 (wrap64 (AS.2.2.2.2.2.2.2.1+1)) AS.2.2.2.2.2.2.2.2.1 AS.2.2.2.2.2.2.2.2.2 GL HD HF I0 J9).bind λC3=>(if C3.1=true then(if a4=true then((Bs.f k C3.2.1 C3.2.2.1 C3.2.2.2.1 C3.2.2.2.2.1 C3.2.2.2.2.2.1 C3.2.2.2.2.2.2.1 C3.2.2.2.2.2.2.2.1 C3.2.2.2.2.2.2.2.2.1 C3.2.2.2.2.2.2.2.2.2 VK VL VM kI oY).bind λHG=>(if HG.1=true then(AL.j7 k a1 a4 GL HD HF I0 J9 VK VL VM kI oY false [] [] 0 0 false [] [] 0 0 HG.2.1 HG.2.2.1 HG.2.2.2.1 HG.2.2.2.2.1 HG.2.2.2.2.2.1 HG.2.2.2.2.2.2.1 HG.2.2.2.2.2.2.2.1 HG.2.2.2.2.2.2.2.2.1 HG.2.2.2.2.2.2.2.2.2) else(AL.uz k false [] [] 0 0 false ([]:List Int) ([]:List Int) 0 0 HG.2.1 HG.2.2.1 HG.2.2.2.1 HG.2.2.2.2.1 HG.2.2.2.2.2.1 HG.2.2.2.2.2.2.1 HG.2.2.2.2.2.2.2.1 HG.2.2.2.2.2.2.2.2.1 HG.2.2.2.2.2.2.2.2.2))) else(AL.j7 k a1 a4 GL HD HF I0 J9 VK VL VM kI oY false [] [] 0 0 false [] [] 0 0 C3.2.1 C3.2.2.1 C3.2.2.2.1 C3.2.2.2.2.1 C3.2.2.2.2.2.1 C3.2.2.2.2.2.2.1 C3.2.2.2.2.2.2.2.1 C3.2.2.2.2.2.2.2.2.1 C3.2.2.2.2.2.2.2.2.2)) else(AL.uz k false [] [] 0 0 false ([]:List Int) ([]:List Int) 0 0 C3.2.1 C3.2.2.1 C3.2.2.2.1 C3.2.2.2.2.1 C3.2.2.2.2.2.1 C3.2.2.2.2.2.2.1 C3.2.2.2.2.2.2.2.1 C3.2.2.2.2.2.2.2.2.1 C3.2.2.2.2.2.2.2.2.2))))))
/-! ### bank_Bank_Add: function by hand -/
def De.f (k:Nat) (Af Al:Int) (Ai:List (Int × Int × Int × Bool × (List Int) × List Int)) (Ar Ao:List Bool) (Ap Au:Int) (Aw:Bool) (Av:Int) (ED:Bool) (Hi GJ:List Int) (Ix Iy:Int) (GL:Bool) (HD HF:List Int) (I0 J9:Int):Option (Bool × List Int × List Int × Int × Int × Int × Int × List (Int × Int × Int × Bool × (List Int) × List Int) × List Bool × List Bool × Int × Int × Bool × Int):=(AL.f k Af Al Ai Ar Ao Ap Au Aw Av 4 ED Hi GJ Ix Iy GL HD HF I0 J9 true).bind λAS=>(some (AS.1,AS.2.1,AS.2.2.1,AS.2.2.2.1,AS.2.2.2.2.1,AS.2.2.2.2.2.1,AS.2.2.2.2.2.2.1,AS.2.2.2.2.2.2.2.1,AS.2.2.2.2.2.2.2.2.1,AS.2.2.2.2.2.2.2.2.2.1,AS.2.2.2.2.2.2.2.2.2.2.1,AS.2.2.2.2.2.2.2.2.2.2.2.1,AS.2.2.2.2.2.2.2.2.2.2.2.2.1,AS.2.2.2.2.2.2.2.2.2.2.2.2.2))
/-! ### bank_Bank_Div: function by hand -/
def GO.f (k:Nat) (Af Al:Int) (Ai:List (Int × Int × Int × Bool × (List Int) × List Int)) (Ar Ao:List Bool) (Ap Au:Int) (Aw:Bool) (Av:Int) (ED:Bool) (Hi GJ:List Int) (Ix Iy:Int) (GL:Bool) (HD HF:List Int) (I0 J9:Int):Option (Bool × List Int × List Int × Int × Int × Int × Int × List (Int × Int × Int × Bool × (List Int) × List Int) × List Bool × List Bool × Int × Int × Bool × Int):=(AL.f k Af Al Ai Ar Ao Ap Au Aw Av 7 ED Hi GJ Ix Iy GL HD HF I0 J9 true).bind λAS=>(some (AS.1,AS.2.1,AS.2.2.1,AS.2.2.2.1,AS.2.2.2.2.1,AS.2.2.2.2.2.1,AS.2.2.2.2.2.2.1,AS.2.2.2.2.2.2.2.1,AS.2.2.2.2.2.2.2.2.1,AS.2.2.2.2.2.2.2.2.2.1,AS.2.2.2.2.2.2.2.2.2.2.1,AS.2.2.2.2.2.2.2.2.2.2.2.1,AS.2.2.2.2.2.2.2.2.2.2.2.2.1,AS.2.2.2.2.2.2.2.2.2.2.2.2.2))
/-! ### bank_Bank_Exp: function by hand -/
def GQ.f (k:Nat) (Af Al:Int) (Ai:List (Int × Int × Int × Bool × (List Int) × List Int)) (Ar Ao:List Bool) (Ap Au:Int) (Aw:Bool) (Av:Int) (ED:Bool) (Hi GJ:List Int) (Ix Iy:Int):Option (Bool × List Int × List Int × Int × Int × Int × Int × List (Int × Int × Int × Bool × (List Int) × List Int) × List Bool × List Bool × Int × Int × Bool × Int):=(AL.f k Af Al Ai Ar Ao Ap Au Aw Av 9 ED Hi GJ Ix Iy false ([]:List Int) ([]:List Int) 0 0 false).bind λAS=>(some (AS.1,AS.2.1,AS.2.2.1,AS.2.2.2.1,AS.2.2.2.2.1,AS.2.2.2.2.2.1,AS.2.2.2.2.2.2.1,AS.2.2.2.2.2.2.2.1,AS.2.2.2.2.2.2.2.2.1,AS.2.2.2.2.2.2.2.2.2.1,AS.2.2.2.2.2.2.2.2.2.2.1,AS.2.2.2.2.2.2.2.2.2.2.2.1,AS.2.2.2.2.2.2.2.2.2.2.2.2.1,AS.2.2.2.2.2.2.2.2.2.2.2.2.2))
/-! ### rat_Sign: function 132 -/
def Gk.f (k:Nat) (Hv:Bool) (JH Jb:List Int):Option (Int):=(Ce.f k JH).bind λAKy=>(if AKy=0 then(some 0) else(if Hv=true then(some (-1)) else(some 1)))
/-! ### rat_Cmp: function 120 -/
def OI.f (k:Nat) (Hv:Bool) (JH Jb:List Int) (ED:Bool) (Yi Ww:List Int):Option (Int):=(Js.f k Hv JH Jb ED Yi Ww).bind λsV=>((Gk.f k sV.1 sV.2.1 sV.2.2).bind λAIe=>(some AIe))
/-! ### bank_Bank_answer: function by hand -/
def Da.f (k:Nat) (Af Al:Int) (Ai:List (Int × Int × Int × Bool × (List Int) × List Int)) (Ar Ao:List Bool) (Ap Au:Int) (Aw:Bool) (Av:Int):Option (Bool × Int × Int × List (Int × Int × Int × Bool × (List Int) × List Int) × List Bool × List Bool × Int × Int × Bool × Int):=if Ap>=(Ar.length:Int) then((A7.f k Af Al Ai Ar Ao Ap Au Aw Av 20).bind λAS=>(some (false,AS.1,AS.2.1,AS.2.2.1,AS.2.2.2.1,AS.2.2.2.2.1,AS.2.2.2.2.2.1,AS.2.2.2.2.2.2.1,AS.2.2.2.2.2.2.2.1,AS.2.2.2.2.2.2.2.2))) else(if 0<=(wrap64 ((wrap64 (Ap+1))-1)) then(if(wrap64 ((wrap64 (Ap+1))-1))<(Ar.length:Int) then(some ((AKz Ar (wrap64 ((wrap64 (Ap+1))-1))),Af,Al,Ai,Ar,Ao,(wrap64 (Ap+1)),Au,Aw,Av)) else none) else none)
/-! ### bank_Bank_Less: function by hand -/
mutual
def AZ.xF:Nat->Bool->Int->Int->(List (Int × Int × Int × Bool × (List Int) × List Int))->List Bool->List Bool->Int->Int->Bool->Int->Option (Bool × Int × Int × List (Int × Int × Int × Bool × (List Int) × List Int) × List Bool × List Bool × Int × Int × Bool × Int)
 | 0,_,_,_,_,_,_,_,_,_,_=>none
 | k+1,x7,Xo,Xp,Xq,Xr,VO,Xs,Xt,Xu,VP=>if VP=0 then(if(VO.length+1)*1<=140737488355328 then(some (x7,Xo,Xp,Xq,Xr,(VO++ [x7]),Xs,Xt,Xu,VP)) else none) else(some (false,Xo,Xp,Xq,Xr,VO,Xs,Xt,Xu,VP))
def AZ.j9:Nat->Int->Int->(List (Int × Int × Int × Bool × (List Int) × List Int))->List Bool->List Bool->Int->Int->Bool->Int->Option (Bool × Int × Int × List (Int × Int × Int × Bool × (List Int) × List Int) × List Bool × List Bool × Int × Int × Bool × Int)
 | 0,_,_,_,_,_,_,_,_,_=>none
 | k+1,Xo,Xp,Xq,Xr,VO,Xs,Xt,Xu,VP=>some (false,Xo,Xp,Xq,Xr,VO,Xs,Xt,Xu,VP)
end
def AZ.f (k:Nat) (Af Al:Int) (Ai:List (Int × Int × Int × Bool × (List Int) × List Int)) (Ar Ao:List Bool) (Ap Au:Int) (Aw:Bool) (Av:Int) (ED:Bool) (Hi GJ:List Int) (Ix Iy:Int) (GL:Bool) (HD HF:List Int) (I0 J9:Int):Option (Bool × Int × Int × List (Int × Int × Int × Bool × (List Int) × List Int) × List Bool × List Bool × Int × Int × Bool × Int):=(BL.f k Af Al Ai Ar Ao Ap Au Aw Av).bind λAS=>(if AS.1=true then(some (false,AS.2.1,AS.2.2.1,AS.2.2.2.1,AS.2.2.2.2.1,AS.2.2.2.2.2.1,AS.2.2.2.2.2.2.1,AS.2.2.2.2.2.2.2.1,AS.2.2.2.2.2.2.2.2.1,AS.2.2.2.2.2.2.2.2.2)) else(if(AS.2.2.2.2.2.1.length:Int)>=65536 then((A7.f k AS.2.1 AS.2.2.1 AS.2.2.2.1 AS.2.2.2.2.1 AS.2.2.2.2.2.1 AS.2.2.2.2.2.2.1 AS.2.2.2.2.2.2.2.1 AS.2.2.2.2.2.2.2.2.1 AS.2.2.2.2.2.2.2.2.2 13).bind λCZ=>(some (false,CZ.1,CZ.2.1,CZ.2.2.1,CZ.2.2.2.1,CZ.2.2.2.2.1,CZ.2.2.2.2.2.1,CZ.2.2.2.2.2.2.1,CZ.2.2.2.2.2.2.2.1,CZ.2.2.2.2.2.2.2.2))) else(if AS.2.1=0 then((OI.f k ED Hi GJ GL HD HF).bind λt3=>(if AS.2.2.2.2.2.2.2.2.1=true then(AZ.xF k (decide (t3<0)) AS.2.1 AS.2.2.1 AS.2.2.2.1 AS.2.2.2.2.1 AS.2.2.2.2.2.1 AS.2.2.2.2.2.2.1 AS.2.2.2.2.2.2.2.1 true AS.2.2.2.2.2.2.2.2.2) else(AZ.xF k (decide (t3<0)) AS.2.1 AS.2.2.1 AS.2.2.2.1 AS.2.2.2.2.1 AS.2.2.2.2.2.1 AS.2.2.2.2.2.2.1 AS.2.2.2.2.2.2.2.1 (t3==0) AS.2.2.2.2.2.2.2.2.2))) else(if AS.2.1=1 then((Du.f Ix I0).bind λt4=>(if AS.2.2.2.2.2.2.2.2.1=true then(AZ.xF k t4 AS.2.1 AS.2.2.1 AS.2.2.2.1 AS.2.2.2.2.1 AS.2.2.2.2.2.1 AS.2.2.2.2.2.2.1 AS.2.2.2.2.2.2.2.1 true AS.2.2.2.2.2.2.2.2.2) else(if t4=true then(AZ.xF k t4 AS.2.1 AS.2.2.1 AS.2.2.2.1 AS.2.2.2.2.1 AS.2.2.2.2.2.1 AS.2.2.2.2.2.2.1 AS.2.2.2.2.2.2.2.1 false AS.2.2.2.2.2.2.2.2.2) else((Du.f I0 Ix).bind λt5=>(AZ.xF k t4 AS.2.1 AS.2.2.1 AS.2.2.2.1 AS.2.2.2.2.1 AS.2.2.2.2.2.1 AS.2.2.2.2.2.2.1 AS.2.2.2.2.2.2.2.1 (!t5) AS.2.2.2.2.2.2.2.2.2))))) else((Bs.f k AS.2.1 AS.2.2.1 AS.2.2.2.1 AS.2.2.2.2.1 AS.2.2.2.2.2.1 AS.2.2.2.2.2.2.1 AS.2.2.2.2.2.2.2.1 AS.2.2.2.2.2.2.2.2.1 AS.2.2.2.2.2.2.2.2.2 ED Hi GJ Ix Iy).bind λFl=>(if Fl.1=true then((Bs.f k Fl.2.1 Fl.2.2.1 Fl.2.2.2.1 Fl.2.2.2.2.1 Fl.2.2.2.2.2.1 Fl.2.2.2.2.2.2.1 Fl.2.2.2.2.2.2.2.1 Fl.2.2.2.2.2.2.2.2.1 Fl.2.2.2.2.2.2.2.2.2 GL HD HF I0 J9).bind λIJ=>(if IJ.1=true then((Da.f k IJ.2.1 IJ.2.2.1 IJ.2.2.2.1 IJ.2.2.2.2.1 IJ.2.2.2.2.2.1 IJ.2.2.2.2.2.2.1 IJ.2.2.2.2.2.2.2.1 IJ.2.2.2.2.2.2.2.2.1 IJ.2.2.2.2.2.2.2.2.2).bind λMv=>(AZ.xF k Mv.1 Mv.2.1 Mv.2.2.1 Mv.2.2.2.1 Mv.2.2.2.2.1 Mv.2.2.2.2.2.1 Mv.2.2.2.2.2.2.1 Mv.2.2.2.2.2.2.2.1 Mv.2.2.2.2.2.2.2.2.1 Mv.2.2.2.2.2.2.2.2.2)) else(AZ.j9 k IJ.2.1 IJ.2.2.1 IJ.2.2.2.1 IJ.2.2.2.2.1 IJ.2.2.2.2.2.1 IJ.2.2.2.2.2.2.1 IJ.2.2.2.2.2.2.2.1 IJ.2.2.2.2.2.2.2.2.1 IJ.2.2.2.2.2.2.2.2.2))) else(AZ.j9 k Fl.2.1 Fl.2.2.1 Fl.2.2.2.1 Fl.2.2.2.2.1 Fl.2.2.2.2.2.1 Fl.2.2.2.2.2.2.1 Fl.2.2.2.2.2.2.2.1 Fl.2.2.2.2.2.2.2.2.1 Fl.2.2.2.2.2.2.2.2.2)))))))
/-! ### rat_Of: function 103 -/
def Qn.f (k:Nat) (a0:Int):Option (Bool × List Int × List Int):=if a0<0 then((Iz.f k (IntKind.u64.wrap (-(IntKind.u64.wrap (a0))))).bind λAK0=>((Ks.f).bind λAK1=>(some (true,AK0,AK1)))) else((Iz.f k (IntKind.u64.wrap (a0))).bind λAK2=>((Ks.f).bind λAK3=>(some (false,AK2,AK3))))
/-! ### bank_Bank_quotient: function by hand -/
def BX.f (k:Nat) (Af Al:Int) (Ai:List (Int × Int × Int × Bool × (List Int) × List Int)) (Ar Ao:List Bool) (Ap Au:Int) (Aw:Bool) (Av a1 a2:Int):Option (Bool × List Int × List Int × Int × Int × List (Int × Int × Int × Bool × (List Int) × List Int) × List Bool × List Bool × Int × Int × Bool × Int):=(Qn.f k a2).bind λAS=>((Qn.f k a1).bind λCZ=>((Jt.f k CZ.1 CZ.2.1 CZ.2.2 AS.1 AS.2.1 AS.2.2).bind λKW=>((A7.f k Af Al Ai Ar Ao Ap Au Aw Av KW.2.2.2).bind λC3=>(some (KW.1,KW.2.1,KW.2.2.1,C3.1,C3.2.1,C3.2.2.1,C3.2.2.2.1,C3.2.2.2.2.1,C3.2.2.2.2.2.1,C3.2.2.2.2.2.2.1,C3.2.2.2.2.2.2.2.1,C3.2.2.2.2.2.2.2.2)))))
/-! ### bank_Bank_Lit: function by hand -/
def CC.f (k:Nat) (Af Al:Int) (Ai:List (Int × Int × Int × Bool × (List Int) × List Int)) (Ar Ao:List Bool) (Ap Au:Int) (Aw:Bool) (Av ED Hi GJ:Int):Option (Bool × List Int × List Int × Int × Int × Int × Int × List (Int × Int × Int × Bool × (List Int) × List Int) × List Bool × List Bool × Int × Int × Bool × Int):=(BL.f k Af Al Ai Ar Ao Ap Au Aw Av).bind λAS=>(if AS.1=true then(some (false,([]:List Int),([]:List Int),0,0,AS.2.1,AS.2.2.1,AS.2.2.2.1,AS.2.2.2.2.1,AS.2.2.2.2.2.1,AS.2.2.2.2.2.2.1,AS.2.2.2.2.2.2.2.1,AS.2.2.2.2.2.2.2.2.1,AS.2.2.2.2.2.2.2.2.2)) else(if AS.2.1=0 then((BX.f k AS.2.1 AS.2.2.1 AS.2.2.2.1 AS.2.2.2.2.1 AS.2.2.2.2.2.1 AS.2.2.2.2.2.2.1 AS.2.2.2.2.2.2.2.1 AS.2.2.2.2.2.2.2.2.1 AS.2.2.2.2.2.2.2.2.2 ED Hi).bind λCZ=>(some (CZ.1,CZ.2.1,CZ.2.2.1,0,0,CZ.2.2.2.1,CZ.2.2.2.2.1,CZ.2.2.2.2.2.1,CZ.2.2.2.2.2.2.1,CZ.2.2.2.2.2.2.2.1,CZ.2.2.2.2.2.2.2.2.1,CZ.2.2.2.2.2.2.2.2.2.1,CZ.2.2.2.2.2.2.2.2.2.2.1,CZ.2.2.2.2.2.2.2.2.2.2.2))) else(if AS.2.1=1 then((EK.f GJ).bind λt3=>(some (false,([]:List Int),([]:List Int),t3,0,AS.2.1,AS.2.2.1,AS.2.2.2.1,AS.2.2.2.2.1,AS.2.2.2.2.2.1,AS.2.2.2.2.2.2.1,AS.2.2.2.2.2.2.2.1,AS.2.2.2.2.2.2.2.2.1,AS.2.2.2.2.2.2.2.2.2))) else((Bj.f k AS.2.1 AS.2.2.1 AS.2.2.2.1 AS.2.2.2.2.1 AS.2.2.2.2.2.1 AS.2.2.2.2.2.2.1 AS.2.2.2.2.2.2.2.1 AS.2.2.2.2.2.2.2.2.1 AS.2.2.2.2.2.2.2.2.2 1 AS.2.2.1 0 false ([]:List Int) ([]:List Int)).bind λC3=>(if C3.2.2.2.2.2.2.2.2.2.2.2.2.2=0 then(some (C3.1,C3.2.1,C3.2.2.1,C3.2.2.2.1,C3.2.2.2.2.1,C3.2.2.2.2.2.1,(wrap64 (C3.2.2.2.2.2.2.1+1)),C3.2.2.2.2.2.2.2.1,C3.2.2.2.2.2.2.2.2.1,C3.2.2.2.2.2.2.2.2.2.1,C3.2.2.2.2.2.2.2.2.2.2.1,C3.2.2.2.2.2.2.2.2.2.2.2.1,C3.2.2.2.2.2.2.2.2.2.2.2.2.1,C3.2.2.2.2.2.2.2.2.2.2.2.2.2)) else(some (C3.1,C3.2.1,C3.2.2.1,C3.2.2.2.1,C3.2.2.2.2.1,C3.2.2.2.2.2.1,C3.2.2.2.2.2.2.1,C3.2.2.2.2.2.2.2.1,C3.2.2.2.2.2.2.2.2.1,C3.2.2.2.2.2.2.2.2.2.1,C3.2.2.2.2.2.2.2.2.2.2.1,C3.2.2.2.2.2.2.2.2.2.2.2.1,C3.2.2.2.2.2.2.2.2.2.2.2.2.1,C3.2.2.2.2.2.2.2.2.2.2.2.2.2)))))))
/-! ### bank_Bank_Log: function by hand -/
def GR.f (k:Nat) (Af Al:Int) (Ai:List (Int × Int × Int × Bool × (List Int) × List Int)) (Ar Ao:List Bool) (Ap Au:Int) (Aw:Bool) (Av:Int) (ED:Bool) (Hi GJ:List Int) (Ix Iy:Int):Option (Bool × List Int × List Int × Int × Int × Int × Int × List (Int × Int × Int × Bool × (List Int) × List Int) × List Bool × List Bool × Int × Int × Bool × Int):=(AL.f k Af Al Ai Ar Ao Ap Au Aw Av 10 ED Hi GJ Ix Iy false ([]:List Int) ([]:List Int) 0 0 false).bind λAS=>(some (AS.1,AS.2.1,AS.2.2.1,AS.2.2.2.1,AS.2.2.2.2.1,AS.2.2.2.2.2.1,AS.2.2.2.2.2.2.1,AS.2.2.2.2.2.2.2.1,AS.2.2.2.2.2.2.2.2.1,AS.2.2.2.2.2.2.2.2.2.1,AS.2.2.2.2.2.2.2.2.2.2.1,AS.2.2.2.2.2.2.2.2.2.2.2.1,AS.2.2.2.2.2.2.2.2.2.2.2.2.1,AS.2.2.2.2.2.2.2.2.2.2.2.2.2))
/-! ### bank_Bank_Mark: function by hand -/
def CL.f (k:Nat) (Af Al:Int) (Ai:List (Int × Int × Int × Bool × (List Int) × List Int)) (Ar Ao:List Bool) (Ap Au:Int) (Aw:Bool) (Av:Int):Option (Int × Int × Int × Int × Int × Bool × Int × Int × Int × List (Int × Int × Int × Bool × (List Int) × List Int) × List Bool × List Bool × Int × Int × Bool × Int):=some ((Ai.length:Int),Ap,(Ao.length:Int),Au,Al,Aw,Av,Af,Al,Ai,Ar,Ao,Ap,Au,Aw,Av)
/-! ### bank_Bank_Met: function by hand -/
def EM.f (k:Nat) (Af Al:Int) (Ai:List (Int × Int × Int × Bool × (List Int) × List Int)) (Ar Ao:List Bool) (Ap Au:Int) (Aw:Bool) (Av:Int):Option (List Bool × Int × Int × List (Int × Int × Int × Bool × (List Int) × List Int) × List Bool × List Bool × Int × Int × Bool × Int):=if(([]:List Bool).length+Ao.length)*1<=140737488355328 then(some ((([]:List Bool)++Ao),Af,Al,Ai,Ar,Ao,Ap,Au,Aw,Av)) else none
/-! ### bank_Bank_Mul: function by hand -/
def DD.f (k:Nat) (Af Al:Int) (Ai:List (Int × Int × Int × Bool × (List Int) × List Int)) (Ar Ao:List Bool) (Ap Au:Int) (Aw:Bool) (Av:Int) (ED:Bool) (Hi GJ:List Int) (Ix Iy:Int) (GL:Bool) (HD HF:List Int) (I0 J9:Int):Option (Bool × List Int × List Int × Int × Int × Int × Int × List (Int × Int × Int × Bool × (List Int) × List Int) × List Bool × List Bool × Int × Int × Bool × Int):=(AL.f k Af Al Ai Ar Ao Ap Au Aw Av 6 ED Hi GJ Ix Iy GL HD HF I0 J9 true).bind λAS=>(some (AS.1,AS.2.1,AS.2.2.1,AS.2.2.2.1,AS.2.2.2.2.1,AS.2.2.2.2.2.1,AS.2.2.2.2.2.2.1,AS.2.2.2.2.2.2.2.1,AS.2.2.2.2.2.2.2.2.1,AS.2.2.2.2.2.2.2.2.2.1,AS.2.2.2.2.2.2.2.2.2.2.1,AS.2.2.2.2.2.2.2.2.2.2.2.1,AS.2.2.2.2.2.2.2.2.2.2.2.2.1,AS.2.2.2.2.2.2.2.2.2.2.2.2.2))
/-! ### bank_Bank_Neg: function by hand -/
def GU.f (k:Nat) (Af Al:Int) (Ai:List (Int × Int × Int × Bool × (List Int) × List Int)) (Ar Ao:List Bool) (Ap Au:Int) (Aw:Bool) (Av:Int) (ED:Bool) (Hi GJ:List Int) (Ix Iy:Int):Option (Bool × List Int × List Int × Int × Int × Int × Int × List (Int × Int × Int × Bool × (List Int) × List Int) × List Bool × List Bool × Int × Int × Bool × Int):=(AL.f k Af Al Ai Ar Ao Ap Au Aw Av 3 ED Hi GJ Ix Iy false ([]:List Int) ([]:List Int) 0 0 false).bind λAS=>(some (AS.1,AS.2.1,AS.2.2.1,AS.2.2.2.1,AS.2.2.2.2.1,AS.2.2.2.2.2.1,AS.2.2.2.2.2.2.1,AS.2.2.2.2.2.2.2.1,AS.2.2.2.2.2.2.2.2.1,AS.2.2.2.2.2.2.2.2.2.1,AS.2.2.2.2.2.2.2.2.2.2.1,AS.2.2.2.2.2.2.2.2.2.2.2.1,AS.2.2.2.2.2.2.2.2.2.2.2.2.1,AS.2.2.2.2.2.2.2.2.2.2.2.2.2))
/-! ### nat_Bit: function 117 -/
def Kt.f (l0:List Int) (a1:Int):Option (Bool):=if a1>=0 then(if(wrap64 (Int.tdiv a1 64))<(l0.length:Int) then(if 0<=(wrap64 (Int.tdiv a1 64)) then(if 0<=(Int.tmod a1 64) then(some ((Go.bits .and .u64 (shr .u64 (rd l0 (wrap64 (Int.tdiv a1 64))) (Int.tmod a1 64)) 1)==1)) else(none)) else(none)) else(some false)) else(some false)
/-! ### nat_Even: function 118 -/
def Dm.l0:Nat->List Int->Int->Int->Option (Int)
 | 0,_,_,_=>none
 | k+1,x0,x7,x8=>if x8<x7 then((Kt.f x0 x8).bind λAK4=>(if AK4=true then(some x8) else(Dm.l0 k x0 x7 (wrap64 (x8+1))))) else(some 0)
def Dm.f (k:Nat) (l0:List Int):Option (Int):=(Ce.f k l0).bind λAK5=>(Dm.l0 k l0 AK5 0)
/-! ### fround_Of: function 63 -/
def DZ.j0:Nat->Bool->List Int->Int->Option (Int)
 | 0,_,_,_=>none
 | k+1,x0,x1,x2=>(Ce.f k x1).bind λxN=>(if xN<=64 then((Hw.f k x1).bind λAIf=>((At.f k x0 AIf.1 x2).bind λAK6=>(some AK6))) else(if(mx (wrap64 ((wrap64 (xN+x2))-53)) (-1074))>971 then((CH.f x0).bind λAK7=>(some AK7)) else((Df.f k x1 (wrap64 ((mx (wrap64 ((wrap64 (xN+x2))-53)) (-1074))-x2))).bind λAK8=>((Hw.f k AK8).bind λAIg=>((Kt.f x1 (wrap64 ((wrap64 ((mx (wrap64 ((wrap64 (xN+x2))-53)) (-1074))-x2))-1))).bind λAK9=>((Dm.f k x1).bind λALA=>((EL.f AIg.1 AK9 (decide (ALA<(wrap64 ((wrap64 ((mx (wrap64 ((wrap64 (xN+x2))-53)) (-1074))-x2))-1))))).bind λALB=>((CO.f k x0 ALB (mx (wrap64 ((wrap64 (xN+x2))-53)) (-1074))).bind λALC=>(some ALC)))))))))
def DZ.f (k:Nat) (a0:Bool) (l1:List Int) (a2:Int) (a3:Bool):Option (Int):=if a3=true then((Bp.f k l1 1).bind λALD=>((Iz.f k 1).bind λALE=>((BH.f k ALD ALE).bind λALF=>(DZ.j0 k a0 ALF ((mn (mx a2 (-1099511627776)) 1099511627776)-1))))) else(DZ.j0 k a0 l1 (mn (mx a2 (-1099511627776)) 1099511627776))
/-! ### fround_FromRat: function 80 -/
def Bx.j0 (k:Nat) (x3:Int) (x15 ZL:Bool) (vH vI:List Int):Option (Int):=if x15=true then(if ZL=true then((Gk.f k ZL vH vI).bind λALG=>((CO.f k (ALG !=0) 0 0).bind λALH=>(some ALH))) else((CO.f k false 0 0).bind λALI=>(some ALI))) else(if x3>1200 then((CH.f ZL).bind λALJ=>(some ALJ)) else((Bp.f k vH (mx (wrap64 (70-x3)) 0)).bind λALK=>((GK.f k ALK vI).bind λAEP=>((DZ.f k ZL AEP.1 (wrap64 (-(mx (wrap64 (70-x3)) 0))) (decide ((AEP.2.1.length:Int)>0))).bind λALL=>(some ALL)))))
def Bx.f (k:Nat) (Hv:Bool) (JH Jb:List Int):Option (Int):=(Ce.f k JH).bind λAFz=>((Ce.f k Jb).bind λAF0=>((Gk.f k Hv JH Jb).bind λALM=>(if ALM=0 then(Bx.j0 k (wrap64 (AFz-AF0)) true Hv JH Jb) else(Bx.j0 k (wrap64 (AFz-AF0)) (decide ((wrap64 (AFz-AF0))<(-1200))) Hv JH Jb))))
/-! ### bank_Bank_Num: function by hand -/
def DC.f (k:Nat) (Af Al:Int) (Ai:List (Int × Int × Int × Bool × (List Int) × List Int)) (Ar Ao:List Bool) (Ap Au:Int) (Aw:Bool) (Av a1 a2:Int):Option (Bool × List Int × List Int × Int × Int × Int × Int × List (Int × Int × Int × Bool × (List Int) × List Int) × List Bool × List Bool × Int × Int × Bool × Int):=(BL.f k Af Al Ai Ar Ao Ap Au Aw Av).bind λAS=>(if AS.1=true then(some (false,([]:List Int),([]:List Int),0,0,AS.2.1,AS.2.2.1,AS.2.2.2.1,AS.2.2.2.2.1,AS.2.2.2.2.2.1,AS.2.2.2.2.2.2.1,AS.2.2.2.2.2.2.2.1,AS.2.2.2.2.2.2.2.2.1,AS.2.2.2.2.2.2.2.2.2)) else((BX.f k AS.2.1 AS.2.2.1 AS.2.2.2.1 AS.2.2.2.2.1 AS.2.2.2.2.2.1 AS.2.2.2.2.2.2.1 AS.2.2.2.2.2.2.2.1 AS.2.2.2.2.2.2.2.2.1 AS.2.2.2.2.2.2.2.2.2 a1 a2).bind λCZ=>(if CZ.2.2.2.2.2.2.2.2.2.2.2=0 then(if CZ.2.2.2.1=0 then(some (CZ.1,CZ.2.1,CZ.2.2.1,0,0,CZ.2.2.2.1,CZ.2.2.2.2.1,CZ.2.2.2.2.2.1,CZ.2.2.2.2.2.2.1,CZ.2.2.2.2.2.2.2.1,CZ.2.2.2.2.2.2.2.2.1,CZ.2.2.2.2.2.2.2.2.2.1,CZ.2.2.2.2.2.2.2.2.2.2.1,CZ.2.2.2.2.2.2.2.2.2.2.2)) else(if CZ.2.2.2.1=1 then((Bx.f k CZ.1 CZ.2.1 CZ.2.2.1).bind λt3=>(some (false,([]:List Int),([]:List Int),t3,0,CZ.2.2.2.1,CZ.2.2.2.2.1,CZ.2.2.2.2.2.1,CZ.2.2.2.2.2.2.1,CZ.2.2.2.2.2.2.2.1,CZ.2.2.2.2.2.2.2.2.1,CZ.2.2.2.2.2.2.2.2.2.1,CZ.2.2.2.2.2.2.2.2.2.2.1,CZ.2.2.2.2.2.2.2.2.2.2.2))) else((Bj.f k CZ.2.2.2.1 CZ.2.2.2.2.1 CZ.2.2.2.2.2.1 CZ.2.2.2.2.2.2.1 CZ.2.2.2.2.2.2.2.1 CZ.2.2.2.2.2.2.2.2.1 CZ.2.2.2.2.2.2.2.2.2.1 CZ.2.2.2.2.2.2.2.2.2.2.1 CZ.2.2.2.2.2.2.2.2.2.2.2 2 0 0 CZ.1 CZ.2.1 CZ.2.2.1).bind λC3=>(some (C3.1,C3.2.1,C3.2.2.1,C3.2.2.2.1,C3.2.2.2.2.1,C3.2.2.2.2.2.1,C3.2.2.2.2.2.2.1,C3.2.2.2.2.2.2.2.1,C3.2.2.2.2.2.2.2.2.1,C3.2.2.2.2.2.2.2.2.2.1,C3.2.2.2.2.2.2.2.2.2.2.1,C3.2.2.2.2.2.2.2.2.2.2.2.1,C3.2.2.2.2.2.2.2.2.2.2.2.2.1,C3.2.2.2.2.2.2.2.2.2.2.2.2.2))))) else(some (false,([]:List Int),([]:List Int),0,0,CZ.2.2.2.1,CZ.2.2.2.2.1,CZ.2.2.2.2.2.1,CZ.2.2.2.2.2.2.1,CZ.2.2.2.2.2.2.2.1,CZ.2.2.2.2.2.2.2.2.1,CZ.2.2.2.2.2.2.2.2.2.1,CZ.2.2.2.2.2.2.2.2.2.2.1,CZ.2.2.2.2.2.2.2.2.2.2.2)))))
/-! ### bank_Bank_Ops: function by hand -/
def GV.f (k:Nat) (Af Al:Int) (Ai:List (Int × Int × Int × Bool × (List Int) × List Int)) (Ar Ao:List Bool) (Ap Au:Int) (Aw:Bool) (Av:Int):Option (Int × Int × Int × List (Int × Int × Int × Bool × (List Int) × List Int) × List Bool × List Bool × Int × Int × Bool × Int):=some (Au,Af,Al,Ai,Ar,Ao,Ap,Au,Aw,Av)
/-! ### bank_copied: function by hand -/
def Gp.f (k:Nat) (Hv:Bool) (oH oV:List Int):Option (Bool × List Int × List Int):=if(([]:List Int).length+oH.length)*8<=140737488355328 then(if(([]:List Int).length+oV.length)*8<=140737488355328 then(some (Hv,(([]:List Int)++oH),(([]:List Int)++oV))) else none) else none
/-! ### bank_Bank_Program: function by hand -/
def BE.l0:Nat->(List (Int × Int × Int × Bool × (List Int) × List Int))->(List (Int × Int × Int × Bool × (List Int) × List Int))->Int->Int->Int->Int->List Bool->List Bool->Int->Int->Bool->Int->Option (List (Int × Int × Int × Bool × (List Int) × List Int) × Int × Int × List (Int × Int × Int × Bool × (List Int) × List Int) × List Bool × List Bool × Int × Int × Bool × Int)
 | 0,_,_,_,_,_,_,_,_,_,_,_,_=>none
 | k+1,x3,Kr,Xn,F5,vJ,vK,vL,vM,vN,vO,vP,vQ=>if F5<Xn then(if 0<=F5 then(if F5<(Kr.length:Int) then((Gp.f k (HH Kr F5).2.2.2.1 (HH Kr F5).2.2.2.2.1 (HH Kr F5).2.2.2.2.2).bind λAS=>(if(x3.length+1)*80<=140737488355328 then(BE.l0 k (x3++ [((HH Kr F5).1,((HH Kr F5).2.1,((HH Kr F5).2.2.1,(AS.1,(AS.2.1,AS.2.2)))))]) Kr Xn (wrap64 (F5+1)) vJ vK vL vM vN vO vP vQ) else none)) else none) else none) else(some (x3,vJ,vK,Kr,vL,vM,vN,vO,vP,vQ))
def BE.f (k:Nat) (Af Al:Int) (Ai:List (Int × Int × Int × Bool × (List Int) × List Int)) (Ar Ao:List Bool) (Ap Au:Int) (Aw:Bool) (Av:Int):Option (List (Int × Int × Int × Bool × (List Int) × List Int) × Int × Int × List (Int × Int × Int × Bool × (List Int) × List Int) × List Bool × List Bool × Int × Int × Bool × Int):=BE.l0 k [] Ai (Ai.length:Int) 0 Af Al Ar Ao Ap Au Aw Av
/-! ### bank_Bank_Sqrt: function by hand -/
def Fh.f (k:Nat) (Af Al:Int) (Ai:List (Int × Int × Int × Bool × (List Int) × List Int)) (Ar Ao:List Bool) (Ap Au:Int) (Aw:Bool) (Av:Int) (ED:Bool) (Hi GJ:List Int) (Ix Iy:Int):Option (Bool × List Int × List Int × Int × Int × Int × Int × List (Int × Int × Int × Bool × (List Int) × List Int) × List Bool × List Bool × Int × Int × Bool × Int):=(AL.f k Af Al Ai Ar Ao Ap Au Aw Av 8 ED Hi GJ Ix Iy false ([]:List Int) ([]:List Int) 0 0 false).bind λAS=>(some (AS.1,AS.2.1,AS.2.2.1,AS.2.2.2.1,AS.2.2.2.2.1,AS.2.2.2.2.2.1,AS.2.2.2.2.2.2.1,AS.2.2.2.2.2.2.2.1,AS.2.2.2.2.2.2.2.2.1,AS.2.2.2.2.2.2.2.2.2.1,AS.2.2.2.2.2.2.2.2.2.2.1,AS.2.2.2.2.2.2.2.2.2.2.2.1,AS.2.2.2.2.2.2.2.2.2.2.2.2.1,AS.2.2.2.2.2.2.2.2.2.2.2.2.2))
/-! ### bank_Bank_Sub: function by hand -/
def GX.f (k:Nat) (Af Al:Int) (Ai:List (Int × Int × Int × Bool × (List Int) × List Int)) (Ar Ao:List Bool) (Ap Au:Int) (Aw:Bool) (Av:Int) (ED:Bool) (Hi GJ:List Int) (Ix Iy:Int) (GL:Bool) (HD HF:List Int) (I0 J9:Int):Option (Bool × List Int × List Int × Int × Int × Int × Int × List (Int × Int × Int × Bool × (List Int) × List Int) × List Bool × List Bool × Int × Int × Bool × Int):=(AL.f k Af Al Ai Ar Ao Ap Au Aw Av 5 ED Hi GJ Ix Iy GL HD HF I0 J9 true).bind λAS=>(some (AS.1,AS.2.1,AS.2.2.1,AS.2.2.2.1,AS.2.2.2.2.1,AS.2.2.2.2.2.1,AS.2.2.2.2.2.2.1,AS.2.2.2.2.2.2.2.1,AS.2.2.2.2.2.2.2.2.1,AS.2.2.2.2.2.2.2.2.2.1,AS.2.2.2.2.2.2.2.2.2.2.1,AS.2.2.2.2.2.2.2.2.2.2.2.1,AS.2.2.2.2.2.2.2.2.2.2.2.2.1,AS.2.2.2.2.2.2.2.2.2.2.2.2.2))
/-! ### bank_Bank_Undo: function by hand -/
def DJ.f (k:Nat) (Af Al:Int) (Ai:List (Int × Int × Int × Bool × (List Int) × List Int)) (Ar Ao:List Bool) (Ap Au:Int) (Aw:Bool) (Av ED Hi GJ Ix Iy:Int) (ADA:Bool) (ALN:Int):Option (Bool × Int × Int × List (Int × Int × Int × Bool × (List Int) × List Int) × List Bool × List Bool × Int × Int × Bool × Int):=if ED<0 then(some (false,Af,Al,Ai,Ar,Ao,Ap,Au,Aw,Av)) else(if ED>(Ai.length:Int) then(some (false,Af,Al,Ai,Ar,Ao,Ap,Au,Aw,Av)) else(if Hi<0 then(some (false,Af,Al,Ai,Ar,Ao,Ap,Au,Aw,Av)) else(if Hi>Ap then(some (false,Af,Al,Ai,Ar,Ao,Ap,Au,Aw,Av)) else(if GJ<0 then(some (false,Af,Al,Ai,Ar,Ao,Ap,Au,Aw,Av)) else(if GJ>(Ao.length:Int) then(some (false,Af,Al,Ai,Ar,Ao,Ap,Au,Aw,Av)) else(if Ix<0 then(some (false,Af,Al,Ai,Ar,Ao,Ap,Au,Aw,Av)) else(if Ix>Au then(some (false,Af,Al,Ai,Ar,Ao,Ap,Au,Aw,Av)) else(if Iy<0 then(some (false,Af,Al,Ai,Ar,Ao,Ap,Au,Aw,Av)) else(if Iy>Al then(some (false,Af,Al,Ai,Ar,Ao,Ap,Au,Aw,Av)) else(if 0<=ED then(if ED<=ED then(if ED<=(Ai.length:Int) then(if 0<=GJ then(if GJ<=GJ then(if GJ<=(Ao.length:Int) then(some (true,Af,Iy,(Ai.take (ED:Int).toNat),Ar,(Ao.take (GJ:Int).toNat),Hi,Ix,ADA,ALN)) else none) else none) else none) else none) else none) else none))))))))))
/-! ### bank_New: function by hand -/
def GH.f (k:Nat) (a0:Int) (a1:List Bool):Option (Bool × Int × Int × List Bool × Int × Int × Bool × Int):=if a0<0 then(some (true,0,0,([]:List Bool),0,0,false,0)) else(if a0>2 then(some (true,0,0,([]:List Bool),0,0,false,0)) else(if(([]:List Bool).length+a1.length)*1<=140737488355328 then(some (false,a0,0,(([]:List Bool)++a1),0,0,false,0)) else none))
/-! ### gr02_Size: function 134 -/
def BJ.l0:Nat->List Int->Int->Option (Int)
 | 0,_,_=>none
 | k+1,x0,x3=>if x3>0 then(if 0<=(wrap64 (x3-1)) then(if(wrap64 (x3-1))<(x0.length:Int) then(if(rd x0 (wrap64 (x3-1)))=0 then(BJ.l0 k x0 (wrap64 (x3-1))) else(some x3)) else(none)) else(none)) else(some x3)
def BJ.f (k:Nat) (l0:List Int):Option (Int):=BJ.l0 k l0 (l0.length:Int)
/-! ### gr02_Trim: function 140 -/
def Ay.l0:Nat->List Int->List Int->Int->Int->Option (List Int)
 | 0,_,_,_,_=>none
 | k+1,x0,x3,x6,x7=>if x7<x6 then(if 0<=x7 then(if x7<(x0.length:Int) then(if x3.length<17592186044416 then(Ay.l0 k x0 (x3++ [rd x0 x7]) x6 (wrap64 (x7+1))) else(none)) else(none)) else(none)) else(some x3)
def Ay.f (k:Nat) (l0:List Int):Option (List Int):=(BJ.f k l0).bind λt106=>(Ay.l0 k l0 ([]:List Int) t106 0)
/-! ### gr02_Shl: function 90 -/
mutual
def Aj.l0:Nat->List Int->Int->List Int->Int->Int->Option (List Int)
 | 0,_,_,_,_,_=>none
 | k+1,x0,x1,x5,F5,dJ=>if dJ<F5 then(if x5.length<17592186044416 then(Aj.l0 k x0 x1 (x5++ [0]) F5 (wrap64 (dJ+1))) else(none)) else(Aj.l1 k x0 x1 x5 (x0.length:Int) 0)
def Aj.l1:Nat->List Int->Int->List Int->Int->Int->Option (List Int)
 | 0,_,_,_,_,_=>none
 | k+1,x0,x1,x5,PV,Mu=>if Mu<PV then(if 0<=Mu then(if Mu<(x0.length:Int) then(if x5.length<17592186044416 then(Aj.l1 k x0 x1 (x5++ [rd x0 Mu]) PV (wrap64 (Mu+1))) else(none)) else(none)) else(none)) else(if(x1%64)=0 then((Ay.f k x5).bind λt118=>(some t118)) else(if x5.length<17592186044416 then((some (x5++ [0]:List Int)).bind λAIh=>(Aj.l2 k AIh (x1%64) (wrap64 ((AIh.length:Int)-1)))) else(none)))
def Aj.l2:Nat->List Int->Int->Int->Option (List Int)
 | 0,_,_,_=>none
 | k+1,x5,x7,x8=>if x8>0 then(if 0<=x8 then(if x8<(x5.length:Int) then(if 0<=(wrap64 (x8-1)) then(if(wrap64 (x8-1))<(x5.length:Int) then(Aj.l2 k (x5.set (x8:Int).toNat (Go.bits .or .u64 (IntKind.u64.wrap ((rd x5 x8)*2^x7.toNat)) ((rd x5 (wrap64 (x8-1)))/2^(64-x7).toNat))) x7 (wrap64 (x8-1))) else(none)) else(none)) else(none)) else(none)) else(if 0<(x5.length:Int) then((Ay.f k (x5.set (0:Int).toNat (IntKind.u64.wrap ((rd x5 0)*2^x7.toNat)))).bind λt129=>(some t129)) else(none))
end
def Aj.f (k:Nat) (l0:List Int) (a1:Int):Option (List Int):=Aj.l0 k l0 (mn (mx a1 0) 65536) ([]:List Int) ((mn (mx a1 0) 65536)/64) 0
/-! ### gr02_Shr: function 100 -/
mutual
def BB.l0:Nat->List Int->Int->List Int->Int->Option (List Int)
 | 0,_,_,_,_=>none
 | k+1,x0,x1,x5,x6=>if x6<(x0.length:Int) then(if 0<=x6 then(if x5.length<17592186044416 then(BB.l0 k x0 x1 (x5++ [rd x0 x6]) (wrap64 (x6+1))) else(none)) else(none)) else(if(x1%64)=0 then((Ay.f k x5).bind λt136=>(some t136)) else(BB.l1 k x5 (x1%64) (x5.length:Int) 0))
def BB.l1:Nat->List Int->Int->Int->Int->Option (List Int)
 | 0,_,_,_,_=>none
 | k+1,x5,x7,x35,mB=>if mB<x35 then(if 0<=mB then(if mB<(x5.length:Int) then((some (x5.set (mB:Int).toNat ((rd x5 mB)/2^x7.toNat):List Int)).bind λADK=>(if(wrap64 (mB+1))<(x5.length:Int) then(if 0<=(wrap64 (mB+1)) then(BB.l1 k (ADK.set (mB:Int).toNat (Go.bits .or .u64 (rd ADK mB) (IntKind.u64.wrap ((rd ADK (wrap64 (mB+1)))*2^(64-x7).toNat)))) x7 x35 (wrap64 (mB+1))) else(none)) else(BB.l1 k ADK x7 x35 (wrap64 (mB+1))))) else(none)) else(none)) else((Ay.f k x5).bind λt144=>(some t144))
end
def BB.f (k:Nat) (l0:List Int) (a1:Int):Option (List Int):=BB.l0 k l0 (mx a1 0) ([]:List Int) (wrap64 ((mx a1 0)/64))
/-! ### gr02_Halves: function 143 -/
def Bh.l0:Nat->List Int->List Int->Int->Int->Option (List Int)
 | 0,_,_,_,_=>none
 | k+1,x0,x3,x6,x7=>if x7<x6 then(if 0<=x7 then(if x7<(x0.length:Int) then(if x3.length<17592186044416 then((some (x3++ [Go.bits .and .u64 (rd x0 x7) 4294967295]:List Int)).bind λAIi=>(if AIi.length<17592186044416 then(Bh.l0 k x0 (AIi++ [(rd x0 x7)/4294967296]) x6 (wrap64 (x7+1))) else(none))) else(none)) else(none)) else(none)) else((Ay.f k x3).bind λt158=>(some t158))
def Bh.f (k:Nat) (l0:List Int):Option (List Int):=Bh.l0 k l0 ([]:List Int) (l0.length:Int) 0
/-! ### gr02_at: function 144 -/
def HI.f (l0:List Int) (a1:Int):Option (Int):=if a1<0 then(some 0) else(if a1>=(l0.length:Int) then(some 0) else(if 0<=a1 then(if a1<(l0.length:Int) then(some (rd l0 a1)) else(none)) else(none)))
/-! ### gr02_Whole: function 145 -/
def B7.l0:Nat->List Int->List Int->Int->Option (List Int)
 | 0,_,_,_=>none
 | k+1,x0,x3,x4=>if x4<(x0.length:Int) then(if 0<=x4 then(if(wrap64 (x4+1))<(x0.length:Int) then(if 0<=(wrap64 (x4+1)) then(if x3.length<17592186044416 then(B7.l0 k x0 (x3++ [Go.bits .or .u64 (rd x0 x4) (IntKind.u64.wrap ((rd x0 (wrap64 (x4+1)))*4294967296))]) (wrap64 (x4+2))) else(none)) else(none)) else(if x3.length<17592186044416 then(B7.l0 k x0 (x3++ [rd x0 x4]) (wrap64 (x4+2))) else(none))) else(none)) else((Ay.f k x3).bind λt170=>(some t170))
def B7.f (k:Nat) (l0:List Int):Option (List Int):=B7.l0 k l0 ([]:List Int) 0
/-! ### gr02_Sub: function 102 -/
def Cz.l0:Nat->List Int->List Int->List Int->Int->Int->Int->Option (List Int)
 | 0,_,_,_,_,_,_=>none
 | k+1,x5,x6,x7,x8,x16,x17=>if x17<x16 then(if 0<=x17 then(if x17<(x5.length:Int) then((HI.f x6 x17).bind λt180=>(if x7.length<17592186044416 then(Cz.l0 k x5 x6 (x7++ [Go.bits .and .u64 (IntKind.u64.wrap ((IntKind.u64.wrap ((IntKind.u64.wrap (4294967296+(rd x5 x17)))-t180))-x8)) 4294967295]) (IntKind.u64.wrap (1-((IntKind.u64.wrap ((IntKind.u64.wrap ((IntKind.u64.wrap (4294967296+(rd x5 x17)))-t180))-x8))/4294967296))) x16 (wrap64 (x17+1))) else(none))) else(none)) else(none)) else((B7.f k x7).bind λt184=>(some t184))
def Cz.f (k:Nat) (l0 l1:List Int):Option (List Int):=(Bh.f k l0).bind λt173=>((Bh.f k l1).bind λt176=>(Cz.l0 k t173 t176 ([]:List Int) 0 (t173.length:Int) 0))
/-! ### gr02_Cmp: function 103 -/
def CQ.l0:Nat->List Int->List Int->Int->Option (Int)
 | 0,_,_,_=>none
 | k+1,x0,x1,x6=>if x6>=0 then((HI.f x0 x6).bind λt187=>((HI.f x1 x6).bind λt188=>(if t187<t188 then(some (-1)) else(if t187>t188 then(some 1) else(CQ.l0 k x0 x1 (wrap64 (x6-1))))))) else(some 0)
def CQ.f (k:Nat) (l0 l1:List Int):Option (Int):=CQ.l0 k l0 l1 (wrap64 ((mx (l0.length:Int) (l1.length:Int))-1))
/-! ### gr02_Bit: function 141 -/
def GM.f (l0:List Int) (a1:Int):Option (Bool):=if a1>=0 then(if(wrap64 (Int.tdiv a1 64))<(l0.length:Int) then(if 0<=(wrap64 (Int.tdiv a1 64)) then(if 0<=(IntKind.u64.wrap (Int.tmod a1 64)) then(some ((Go.bits .and .u64 (shr .u64 (rd l0 (wrap64 (Int.tdiv a1 64))) (IntKind.u64.wrap (Int.tmod a1 64))) 1)==1)) else(none)) else(none)) else(some false)) else(some false)
/-! ### gr02_Even: function 156 -/
def B8.l0:Nat->List Int->Int->Option (Int)
 | 0,_,_=>none
 | k+1,x0,x3=>(GM.f x0 x3).bind λALO=>(if ALO=true then(some x3) else(B8.l0 k x0 (wrap64 (x3+1))))
def B8.f (k:Nat) (l0:List Int):Option (Int):=(BJ.f k l0).bind λALP=>(if ALP=0 then(some 0) else(B8.l0 k l0 0))
/-! ### gr05_Gcd: function 135 -/
mutual
def BU.j0:Nat->List Int->List Int->Bool->Option (List Int)
 | 0,_,_,_=>none
 | k+1,x0,x1,yJ=>if yJ=true then(if 0<(x0.length:Int) then(if 0<(x1.length:Int) then(BU.l0 k (rd x0 0) (rd x1 0)) else(none)) else(none)) else((B8.f k x0).bind λALQ=>((B8.f k x1).bind λALR=>((B8.f k x0).bind λADE=>((BB.f k x0 ADE).bind λALS=>((B8.f k x1).bind λALT=>((BB.f k x1 ALT).bind λALU=>(BU.l1 k (mn ALQ ALR) ALS ALU)))))))
def BU.l0:Nat->Int->Int->Option (List Int)
 | 0,_,_=>none
 | k+1,x5,x6=>if x6>0 then(if x6=0 then(none) else(BU.l0 k x6 (Int.tmod x5 x6))) else(some (([x5]:List Int)))
def BU.l1:Nat->Int->List Int->List Int->Option (List Int)
 | 0,_,_,_=>none
 | k+1,x7,x8,x9=>(CQ.f k x8 x9).bind λAIj=>(if AIj=0 then((Aj.f k x8 x7).bind λADF=>(some ADF)) else(if AIj<0 then((Cz.f k x9 x8).bind λAA9=>((B8.f k AA9).bind λADG=>((BB.f k AA9 ADG).bind λALV=>(BU.l1 k x7 ALV x8)))) else((Cz.f k x8 x9).bind λAIk=>((B8.f k AIk).bind λALW=>((BB.f k AIk ALW).bind λALX=>(BU.l1 k x7 ALX x9))))))
end
def BU.f (k:Nat) (l0 l1:List Int):Option (List Int):=(BJ.f k l0).bind λALY=>(if ALY=0 then((Ay.f k l1).bind λALZ=>(some ALZ)) else((BJ.f k l1).bind λALa=>(if ALa=0 then((Ay.f k l0).bind λAFq=>(some AFq)) else((BJ.f k l0).bind λALb=>(if ALb=1 then((BJ.f k l1).bind λALc=>(BU.j0 k l0 l1 (ALc==1))) else(BU.j0 k l0 l1 false))))))
/-! ### gr01_Len: function 142 -/
def EF.l0:Nat->Int->Int->Option (Int)
 | 0,_,_=>none
 | k+1,x0,x3=>if x0>0 then(EF.l0 k (x0/2) (wrap64 (x3+1))) else(some x3)
def EF.f (k:Nat) (a0:Int):Option (Int):=EF.l0 k a0 0
/-! ### gr02_Bits: function 101 -/
def GY.f (k:Nat) (l0:List Int):Option (Int):=(BJ.f k l0).bind λt147=>(if t147=0 then(some 0) else(if 0<=(wrap64 (t147-1)) then(if(wrap64 (t147-1))<(l0.length:Int) then((EF.f k (rd l0 (wrap64 (t147-1)))).bind λt149=>(some (wrap64 ((wrap64 ((wrap64 (64*t147))-64))+t149)))) else(none)) else(none)))
/-! ### gr04_set: function 151 -/
def CE.l0:Nat->List Int->Int->List Int->Int->Int->Option (List Int)
 | 0,_,_,_,_,_=>none
 | k+1,x0,x1,x5,F5,dJ=>if dJ<F5 then(if dJ<(x0.length:Int) then(if 0<=dJ then(if dJ=(wrap64 (Int.tdiv x1 64)) then(if 0<=(IntKind.u64.wrap (Int.tmod x1 64)) then(if x5.length<17592186044416 then(CE.l0 k x0 x1 (x5++ [Go.bits .or .u64 (rd x0 dJ) (shl .u64 1 (IntKind.u64.wrap (Int.tmod x1 64)))]) F5 (wrap64 (dJ+1))) else(none)) else(none)) else(if x5.length<17592186044416 then(CE.l0 k x0 x1 (x5++ [rd x0 dJ]) F5 (wrap64 (dJ+1))) else(none))) else(none)) else(if dJ=(wrap64 (Int.tdiv x1 64)) then(if 0<=(IntKind.u64.wrap (Int.tmod x1 64)) then(if x5.length<17592186044416 then(CE.l0 k x0 x1 (x5++ [Go.bits .or .u64 0 (shl .u64 1 (IntKind.u64.wrap (Int.tmod x1 64)))]) F5 (wrap64 (dJ+1))) else(none)) else(none)) else(if x5.length<17592186044416 then(CE.l0 k x0 x1 (x5++ [0]) F5 (wrap64 (dJ+1))) else(none)))) else(some x5)
def CE.f (k:Nat) (l0:List Int) (a1:Int):Option (List Int):=CE.l0 k l0 a1 ([]:List Int) (mx (l0.length:Int) (wrap64 ((wrap64 (Int.tdiv a1 64))+1))) 0
/-! ### gr04_Div: function 139 -/
mutual
def BV.j0:Nat->List Int->List Int->List Int->Bool->Option (List Int × List Int)
 | 0,_,_,_,_=>none
 | k+1,x0,x1,x6,x18=>if x18=true then(if 0<(x0.length:Int) then(if 0<(x1.length:Int) then(if(rd x1 0)=0 then(none) else((Ay.f k (([IntKind.u64.wrap (Int.tdiv (rd x0 0) (rd x1 0))]:List Int))).bind λAFs=>((Ay.f k (([Int.tmod (rd x0 0) (rd x1 0)]:List Int))).bind λALd=>(some (AFs,ALd))))) else(none)) else(none)) else((GY.f k x0).bind λADH=>((GY.f k x1).bind λADI=>((BB.f k x0 (mx 0 (wrap64 ((wrap64 (ADH-ADI))+1)))).bind λAFt=>(BV.l0 k x0 x1 x6 AFt (wrap64 ((mx 0 (wrap64 ((wrap64 (ADH-ADI))+1)))-1))))))
def BV.l0:Nat->List Int->List Int->List Int->List Int->Int->Option (List Int × List Int)
 | 0,_,_,_,_,_=>none
 | k+1,x0,x1,x6,x7,LB=>if LB>=0 then((Aj.f k x7 1).bind λAIl=>((GM.f x0 LB).bind λAFu=>(if AFu=true then((CE.f k AIl 0).bind λALe=>(BV.j2 k x0 x1 x6 ALe LB)) else(BV.j2 k x0 x1 x6 AIl LB)))) else((Ay.f k x6).bind λALf=>((Ay.f k x7).bind λALg=>(some (ALf,ALg))))
def BV.j2:Nat->List Int->List Int->List Int->List Int->Int->Option (List Int × List Int)
 | 0,_,_,_,_,_=>none
 | k+1,x0,x1,x6,x7,LB=>(CQ.f k x7 x1).bind λALh=>(if ALh>=0 then((Cz.f k x7 x1).bind λALi=>((CE.f k x6 LB).bind λALj=>(BV.l0 k x0 x1 ALj ALi (wrap64 (LB-1))))) else(BV.l0 k x0 x1 x6 x7 (wrap64 (LB-1))))
end
def BV.f (k:Nat) (l0 l1:List Int):Option (List Int × List Int):=(BJ.f k l0).bind λALk=>(if ALk=1 then((BJ.f k l1).bind λAFr=>(BV.j0 k l0 l1 ([]:List Int) (AFr==1))) else(BV.j0 k l0 l1 ([]:List Int) false))
/-! ### gr05_Part: function 136 -/
def IX.f (k:Nat) (l0 l1:List Int):Option (List Int):=(BJ.f k l1).bind λAFv=>(if AFv=0 then(some ([]:List Int)) else((CQ.f k l1 (([1]:List Int))).bind λALl=>(if ALl=0 then((Ay.f k l0).bind λALm=>(some ALm)) else((BV.f k l0 l1).bind λAIm=>(some AIm.1)))))
/-! ### gr07_Make: function 81 -/
def HJ.f (k:Nat) (a0:Bool) (l1 l2:List Int):Option (Bool × List Int × List Int):=(BJ.f k l1).bind λALn=>(if ALn=0 then(some (false,([]:List Int),(([1]:List Int)))) else((BU.f k l1 l2).bind λAIn=>((IX.f k l1 AIn).bind λALo=>((IX.f k l2 AIn).bind λALp=>(some (a0,ALo,ALp))))))
/-! ### gr07_Of: function 119 -/
def OQ.f (k:Nat) (a0:Int):Option (Bool × List Int × List Int):=if a0<0 then((HJ.f k true (([IntKind.u64.wrap (-(IntKind.u64.wrap (a0)))]:List Int)) (([1]:List Int))).bind λABS=>(some (ABS.1,ABS.2.1,ABS.2.2))) else((HJ.f k false (([IntKind.u64.wrap (a0)]:List Int)) (([1]:List Int))).bind λABT=>(some (ABT.1,ABT.2.1,ABT.2.2)))
/-! ### gr07_Words: function 109 -/
def Ca.l0:Nat->List Int->List Int->Int->Int->Option (Bool)
 | 0,_,_,_,_=>none
 | k+1,x0,x1,Xn,F5=>if F5<Xn then(if 0<=F5 then(if F5<(x0.length:Int) then(if F5<(x1.length:Int) then(if(rd x0 F5)=(rd x1 F5) then(Ca.l0 k x0 x1 Xn (wrap64 (F5+1))) else(some false)) else(none)) else(none)) else(none)) else(some true)
def Ca.f (k:Nat) (l0 l1:List Int):Option (Bool):=if(l0.length:Int)=(l1.length:Int) then(Ca.l0 k l0 l1 (l0.length:Int) 0) else(some false)
/-! ### gr07_Same: function 61 -/
def HK.f (k:Nat) (Hv:Bool) (JH Jb:List Int) (ED:Bool) (Yi Ww:List Int):Option (Bool):=if(Hv==ED)=true then((Ca.f k JH Yi).bind λALq=>(if ALq=true then((Ca.f k Jb Ww).bind λALr=>(some ALr)) else(some false))) else(some false)
/-! ### gr18_Same: function by hand -/
def Ja.f (k:Nat) (Hv:Bool) (oH oV:List Int) (ALs ALt:Int) (ED:Bool) (Hi GJ:List Int) (Ix Iy:Int):Option (Bool):=if ALs=Ix then(if ALt=Iy then((HK.f k Hv oH oV ED Hi GJ).bind λt1=>(some t1)) else(some false)) else(some false)
/-! ### gr18_All: function by hand -/
def EC.l0:Nat->(List ((Bool × (List Int) × List Int) × Int × Int))->(List ((Bool × (List Int) × List Int) × Int × Int))->Int->Int->Option (Bool)
 | 0,_,_,_,_=>none
 | k+1,x0,x1,Xn,F5=>if F5<Xn then(if 0<=F5 then(if F5<(x0.length:Int) then(if F5<(x1.length:Int) then((Ja.f k (DH x0 F5).1.1 (DH x0 F5).1.2.1 (DH x0 F5).1.2.2 (DH x0 F5).2.1 (DH x0 F5).2.2 (DH x1 F5).1.1 (DH x1 F5).1.2.1 (DH x1 F5).1.2.2 (DH x1 F5).2.1 (DH x1 F5).2.2).bind λt1=>(if t1=true then(EC.l0 k x0 x1 Xn (wrap64 (F5+1))) else(some false))) else none) else none) else none) else(some true)
def EC.f (k:Nat) (a0 a1:List ((Bool × (List Int) × List Int) × Int × Int)):Option (Bool):=if(a0.length:Int)=(a1.length:Int) then(EC.l0 k a0 a1 (a0.length:Int) 0) else(some false)
/-! ### gradineplain_Bools: function 43 -/
def Aq.l0:Nat->List Bool->List Bool->Int->Int->Option (Bool)
 | 0,_,_,_,_=>none
 | k+1,x0,x1,Xn,F5=>if F5<Xn then(if 0<=F5 then(if F5<(x0.length:Int) then(if F5<(x1.length:Int) then(if((ABw false x0 F5) !=(ABw false x1 F5))=true then(some false) else(Aq.l0 k x0 x1 Xn (wrap64 (F5+1)))) else(none)) else(none)) else(none)) else(some true)
def Aq.f (k:Nat) (l0 l1:List Bool):Option (Bool):=if(l0.length:Int)=(l1.length:Int) then(Aq.l0 k l0 l1 (l0.length:Int) 0) else(some false)
/-! ### gradineplain_Long: function 130 -/
def Cu.f (Hv:Bool) (JH Jb:List Int) (a1:Int):Option (Bool):=if(JH.length:Int)>a1 then(some true) else(some (decide ((Jb.length:Int)>a1)))
/-! ### gradineplain_Wide: function by hand -/
def BD.l0:Nat->(List ((Bool × (List Int) × List Int) × Int × Int))->Int->Int->Int->Option (Bool)
 | 0,_,_,_,_=>none
 | k+1,x0,x1,x7,x8=>if x8<x7 then(if 0<=x8 then(if x8<(x0.length:Int) then((Cu.f (DH x0 x8).1.1 (DH x0 x8).1.2.1 (DH x0 x8).1.2.2 x1).bind λt1=>(if t1=true then(some true) else(BD.l0 k x0 x1 x7 (wrap64 (x8+1))))) else none) else none) else(some false)
def BD.f (k:Nat) (a0:List ((Bool × (List Int) × List Int) × Int × Int)) (a1:Int):Option (Bool):=BD.l0 k a0 a1 (a0.length:Int) 0
/-! ### gr02_Add: function 108 -/
def Hx.l0:Nat->List Int->List Int->List Int->Int->Int->Int->Option (List Int)
 | 0,_,_,_,_,_,_=>none
 | k+1,x5,x6,x7,x8,qY,Xm=>if Xm<qY then((HI.f x5 Xm).bind λt195=>((HI.f x6 Xm).bind λt196=>(if x7.length<17592186044416 then(Hx.l0 k x5 x6 (x7++ [Go.bits .and .u64 (IntKind.u64.wrap ((IntKind.u64.wrap (x8+t195))+t196)) 4294967295]) ((IntKind.u64.wrap ((IntKind.u64.wrap (x8+t195))+t196))/4294967296) qY (wrap64 (Xm+1))) else(none)))) else((B7.f k x7).bind λt200=>(some t200))
def Hx.f (k:Nat) (l0 l1:List Int):Option (List Int):=(Bh.f k l0).bind λt189=>((Bh.f k l1).bind λt192=>(Hx.l0 k t189 t192 ([]:List Int) 0 (wrap64 ((mx (t189.length:Int) (t192.length:Int))+1)) 0))
/-! ### gr03_Mul: function 107 -/
mutual
def EG.l0:Nat->List Int->List Int->List Int->Int->Int->Option (List Int)
 | 0,_,_,_,_,_=>none
 | k+1,x5,x6,x7,NO,x24=>if x24<NO then(EG.l1 k x5 x6 x7 x24 0 NO x24 (x6.length:Int) 0) else((B7.f k x7).bind λALu=>(some ALu))
def EG.l1:Nat->List Int->List Int->List Int->Int->Int->Int->Int->Int->Int->Option (List Int)
 | 0,_,_,_,_,_,_,_,_,_=>none
 | k+1,x5,x6,x7,x8,x9,NO,x24,yJ,gC=>if gC<yJ then(if 0<=x8 then(if x8<(x5.length:Int) then(if 0<=gC then(if gC<(x6.length:Int) then(if 0<=(wrap64 (x8+gC)) then(if(wrap64 (x8+gC))<(x7.length:Int) then(EG.l1 k x5 x6 (x7.set ((wrap64 (x8+gC)):Int).toNat (Go.bits .and .u64 (IntKind.u64.wrap ((IntKind.u64.wrap (x9+(IntKind.u64.wrap ((rd x5 x8)*(rd x6 gC)))))+(rd x7 (wrap64 (x8+gC))))) 4294967295)) x8 ((IntKind.u64.wrap ((IntKind.u64.wrap (x9+(IntKind.u64.wrap ((rd x5 x8)*(rd x6 gC)))))+(rd x7 (wrap64 (x8+gC)))))/4294967296) NO x24 yJ (wrap64 (gC+1))) else(none)) else(none)) else(none)) else(none)) else(none)) else(none)) else(if 0<=(wrap64 (x8+(x6.length:Int))) then(if(wrap64 (x8+(x6.length:Int)))<(x7.length:Int) then(EG.l0 k x5 x6 (x7.set ((wrap64 (x8+(x6.length:Int))):Int).toNat x9) NO (wrap64 (x24+1))) else(none)) else(none))
end
def EG.f (k:Nat) (l0 l1:List Int):Option (List Int):=(Bh.f k l0).bind λsW=>((Bh.f k l1).bind λADL=>(if 0<=(wrap64 ((wrap64 ((sW.length:Int)+(ADL.length:Int)))+1)) then(if(wrap64 ((wrap64 ((sW.length:Int)+(ADL.length:Int)))+1):Int).toNat<=35184372088832 then(EG.l0 k sW ADL (List.replicate (wrap64 ((wrap64 ((sW.length:Int)+(ADL.length:Int)))+1):Int).toNat 0) (sW.length:Int) 0) else(none)) else(none)))
/-! ### gr04_Root: function 235 -/
def HM.l0:Nat->List Int->List Int->Int->Option (List Int)
 | 0,_,_,_=>none
 | k+1,x0,x3,x4=>if x4>=0 then((CE.f k x3 x4).bind λABU=>((EG.f k ABU ABU).bind λAIo=>((CQ.f k AIo x0).bind λAIp=>(if AIp<=0 then(HM.l0 k x0 ABU (wrap64 (x4-1))) else(HM.l0 k x0 x3 (wrap64 (x4-1))))))) else((Ay.f k x3).bind λAIq=>(some AIq))
def HM.f (k:Nat) (l0:List Int):Option (List Int):=(GY.f k l0).bind λAIr=>(HM.l0 k l0 ([]:List Int) (wrap64 (Int.tdiv (wrap64 (AIr+1)) 2)))
/-! ### gr09_Field: function 88 -/
def LL.f (a0:Int):Option (Int):=some (wrap64 (Go.bits .and .u64 (a0/4503599627370496) 2047))
/-! ### gr09_Signed: function 91 -/
def Fo.f (a0:Bool) (a1:Int):Option (Int):=if a0=true then(some (IntKind.u64.wrap (a1+9223372036854775808))) else(some a1)
/-! ### gr09_Inf: function 35 -/
def QO.f (a0:Bool):Option (Int):=(Fo.f a0 9218868437227405312).bind λt104=>(some t104)
/-! ### gr09_Rest: function 96 -/
def LA.f (a0:Int):Option (Int):=some (Go.bits .and .u64 a0 4503599627370495)
/-! ### gr09_Kind: function 40 -/
def Wa.f (a0:Int):Option (Int):=(LL.f a0).bind λALv=>(if ALv=2047 then((LA.f a0).bind λALw=>(if ALw=0 then(some 3) else(some 4))) else((LL.f a0).bind λALx=>(if ALx>0 then(some 2) else((LA.f a0).bind λALy=>(if ALy>0 then(some 1) else(some 0))))))
/-! ### gr09_Make: function 31 -/
mutual
def Ba.j0:Nat->Bool->Int->Int->Bool->Option (Int × Bool)
 | 0,_,_,_,_=>none
 | k+1,x0,x1,x2,x17=>if x17=true then(some (0,false)) else(Ba.l0 k x0 x1 x2)
def Ba.l0:Nat->Bool->Int->Int->Option (Int × Bool)
 | 0,_,_,_=>none
 | k+1,x0,x1,x2=>if(Int.tmod x1 2)=0 then(Ba.l0 k x0 (IntKind.u64.wrap (Int.tdiv x1 2)) (wrap64 (x2+1))) else(if x1>=9007199254740992 then(Ba.j2 k x0 x1 x2 true) else(Ba.j2 k x0 x1 x2 (decide (x2<(-1074)))))
def Ba.j2:Nat->Bool->Int->Int->Bool->Option (Int × Bool)
 | 0,_,_,_,_=>none
 | k+1,x0,x1,x2,oQ=>if oQ=true then(some (0,false)) else(Ba.l1 k x0 x1 x2)
def Ba.j4:Nat->Bool->Int->Int->Option (Int × Bool)
 | 0,_,_,_=>none
 | k+1,x0,x1,x2=>if x1<4503599627370496 then((Fo.f x0 x1).bind λt102=>(some (t102,true))) else(if x2>971 then(some (0,false)) else((Fo.f x0 (IntKind.u64.wrap ((IntKind.u64.wrap ((IntKind.u64.wrap ((IntKind.u64.wrap (wrap64 (x2+1075)))*4503599627370496))+x1))-4503599627370496))).bind λt103=>(some (t103,true))))
def Ba.l1:Nat->Bool->Int->Int->Option (Int × Bool)
 | 0,_,_,_=>none
 | k+1,x0,x1,x2=>if x1<4503599627370496 then(if x2>(-1074) then(Ba.l1 k x0 (IntKind.u64.wrap (x1*2)) (wrap64 (x2-1))) else(Ba.j4 k x0 x1 x2)) else(Ba.j4 k x0 x1 x2)
end
def Ba.f (k:Nat) (a0:Bool) (a1 a2:Int):Option (Int × Bool):=if a1=0 then((Fo.f a0 0).bind λt101=>(some (t101,true))) else(if a2<(-1200) then(Ba.j0 k a0 a1 a2 true) else(Ba.j0 k a0 a1 a2 (decide (a2>1200))))
/-! ### gr09_Nan: function 33 -/
def nh.f  :Option (Int):=some 9221120237041090560
/-! ### gr09_Neg: function 27 -/
def aV.f (a0:Int):Option (Bool):=some ((a0/9223372036854775808)==1)
/-! ### gr09_Parts: function 42 -/
def Tq.f (a0:Int):Option (Int × Int):=(LL.f a0).bind λALz=>(if ALz=0 then((LA.f a0).bind λAL0=>(some (AL0,(-1074)))) else((LA.f a0).bind λAL1=>((LL.f a0).bind λAL2=>(some (IntKind.u64.wrap (AL1+4503599627370496),wrap64 (AL2-1075))))))
/-! ### gr10_Half: function 95 -/
def fo.f (k:Nat) (l0:List Int):Option (List Int):=(Aj.f k l0 1).bind λAL3=>((Hx.f k AL3 (([1]:List Int))).bind λAL4=>(some AL4))
/-! ### gr10_Of: function 94 -/
mutual
def FV.j0:Nat->Bool->Int->List Int->Option (Int)
 | 0,_,_,_=>none
 | k+1,x0,x8,x9=>if(x9.length:Int)>0 then(if 0<(x9.length:Int) then(FV.j1 k x0 x8 (rd x9 0)) else(none)) else(FV.j1 k x0 x8 0)
def FV.j1:Nat->Bool->Int->Int->Option (Int)
 | 0,_,_,_=>none
 | k+1,x0,x8,Xn=>(Ba.f k x0 Xn x8).bind λAEQ=>(if AEQ.2=true then(some AEQ.1) else((QO.f x0).bind λAL5=>(some AL5)))
end
def FV.f (k:Nat) (a0:Bool) (l1:List Int) (a2:Int):Option (Int):=(Ay.f k l1).bind λt204=>(if(t204.length:Int)=0 then((Fo.f a0 0).bind λt207=>(some t207)) else((GY.f k t204).bind λt208=>(if a2>2000 then((QO.f a0).bind λt209=>(some t209)) else(if a2<(wrap64 ((-1200)-t208)) then((Fo.f a0 0).bind λt210=>(some t210)) else(if(mx (wrap64 ((wrap64 (t208+a2))-53)) (-1074))>971 then((QO.f a0).bind λt211=>(some t211)) else((Aj.f k t204 (wrap64 (a2-(mx (wrap64 ((wrap64 (t208+a2))-53)) (-1074))))).bind λt212=>(if a2<(mx (wrap64 ((wrap64 (t208+a2))-53)) (-1074)) then((BB.f k t204 (wrap64 ((mx (wrap64 ((wrap64 (t208+a2))-53)) (-1074))-a2))).bind λt215=>((Aj.f k t215 (wrap64 ((mx (wrap64 ((wrap64 (t208+a2))-53)) (-1074))-a2))).bind λt218=>((Cz.f k t204 t218).bind λt221=>((Aj.f k t221 1).bind λt224=>((Aj.f k (([1]:List Int)) (wrap64 ((mx (wrap64 ((wrap64 (t208+a2))-53)) (-1074))-a2))).bind λt230=>((CQ.f k t224 t230).bind λAIs=>(if AIs>0 then((Hx.f k t215 (([1]:List Int))).bind λAL6=>(FV.j0 k a0 (mx (wrap64 ((wrap64 (t208+a2))-53)) (-1074)) AL6)) else(if AIs=0 then((GM.f t215 0).bind λAL7=>(if AL7=true then((Hx.f k t215 (([1]:List Int))).bind λAL8=>(FV.j0 k a0 (mx (wrap64 ((wrap64 (t208+a2))-53)) (-1074)) AL8)) else(FV.j0 k a0 (mx (wrap64 ((wrap64 (t208+a2))-53)) (-1074)) t215))) else(FV.j0 k a0 (mx (wrap64 ((wrap64 (t208+a2))-53)) (-1074)) t215))))))))) else(FV.j0 k a0 (mx (wrap64 ((wrap64 (t208+a2))-53)) (-1074)) t212))))))))
/-! ### gr10_More: function 37 -/
def fu.f (k:Nat) (a0:Bool) (l1:List Int) (a2:Int) (a3:Bool):Option (Int):=if a3=true then((fo.f k l1).bind λAL9=>((FV.f k a0 AL9 ((mn (mx a2 (-1099511627776)) 1099511627776)-1)).bind λAMA=>(some AMA))) else((FV.f k a0 l1 (mn (mx a2 (-1099511627776)) 1099511627776)).bind λAMB=>(some AMB))
/-! ### gr12_Sqrt: function 164 -/
mutual
def Cw.j0:Nat->Int->Int->Bool->Option (Int)
 | 0,_,_,_=>none
 | k+1,x0,x3,qY=>if qY=true then((nh.f).bind λAIt=>(some AIt)) else(if x3=3 then(some x0) else((Tq.f x0).bind λbT=>(if(Int.tmod (wrap64 (bT.2-160)) 2)=0 then(Cw.j1 k bT.1 bT.2 160) else(Cw.j1 k bT.1 bT.2 (160+1)))))
def Cw.j1:Nat->Int->Int->Int->Option (Int)
 | 0,_,_,_=>none
 | k+1,x4,x5,x6=>(Aj.f k (([x4]:List Int)) x6).bind λAER=>((HM.f k AER).bind λABV=>((EG.f k ABV ABV).bind λAIu=>((CQ.f k AIu AER).bind λAIv=>((fu.f k false ABV (wrap64 (Int.tdiv (wrap64 (x5-x6)) 2)) (AIv !=0)).bind λAIw=>(some AIw)))))
end
def Cw.f (k:Nat) (a0:Int):Option (Int):=(Wa.f a0).bind λvR=>(if vR=0 then(some a0) else(if vR=4 then(Cw.j0 k a0 vR true) else((aV.f a0).bind λAIx=>(Cw.j0 k a0 vR AIx))))
end Go.Proofs.YtjocbnjpjihpnaaGreat.P
