/- Functions of one package as Lean functions, and walks: written by a program for this claim. -/
import Derived.Test.YtjocbnjpjihpnaaGreatFbase
import Derived.Test.YtjocbnjpjihpnaaGreatFsxbase
import Derived.Test.YtjocbnjpjihpnaaGreatWWa
namespace Go.Proofs.YtjocbnjpjihpnaaGreat.P
open Go.RowKit Go.Proofs.YtjocbnjpjihpnaaGreatW.PrintWords Go.Proofs.YtjocbnjpjihpnaaGreatW.PrintLast Go.Proofs.YtjocbnjpjihpnaaGreatW.PrintMore
attribute [local go_sem] max2_int min2_int max_two min_two max_three min_three max_four min_four
set_option linter.unusedVariables false
set_option linter.unusedSimpArgs false

/-! ### nat_Right: function 54 -/
def nat_Right.f (l0:List Int):Option (Bool):=if (l0.length:Int)=0 then (some true) else (if 0≤(wrap64 ((l0.length:Int)-1)) then (if (wrap64 ((l0.length:Int)-1))<(l0.length:Int) then (some ((rd l0 (wrap64 ((l0.length:Int)-1))) !=0)) else (none)) else (none))

/-! ### nat_size: function 192 -/
def nat_size.l0:Nat→List Int→Int→Option (Int)
 | 0,_,_=>none
 | k+1,x0,x3=>if x3>0 then (if 0≤(wrap64 (x3-1)) then (if (wrap64 (x3-1))<(x0.length:Int) then (if (rd x0 (wrap64 (x3-1)))=0 then (nat_size.l0 k x0 (wrap64 (x3-1))) else (some x3)) else (none)) else (none)) else (some x3)
def nat_size.f (k:Nat) (l0:List Int):Option (Int):=nat_size.l0 k l0 (l0.length:Int)
set_option maxHeartbeats 8000000 in
set_option maxRecDepth 100000 in
theorem nat_size.calls (k:Nat) (A0:Option Addr) (c0:Nat) (l0:List Int) (r:Int) (w:World) (hr0:Kd.C (Kd.int .u64) w A0 l0.length l0) (hc0:l0.length≤c0) (h:nat_size.f k l0=some r) :
 Calls Tryz.prog 192 #[.slice A0 l0.length c0] w fun e w'=>e= .returned (.int .i64 r)∧Drawn0 w w':=by
 have HR0:=Aside0.mk hr0
 have HC0:=Aside0.mk hc0
 clear hr0 hc0
 have H:(nat_size.l0 k l0 (l0.length:Int))=some r:=h
 clear h
 have H':=Aside0.mk H
 clear H
 go_enter Tryz.func192,Tryz.ntmps192
 go_wp2
 go_loopg [3] k (fun kq v3 w'=> ∃ (x3_1:Int),v3= .int .i64 x3_1∧Aside0 (nat_size.l0 kq l0 x3_1=some r)∧Aside0 (kq≤k)∧Drawn0 w w')
 case atStart=>exact ⟨((l0.length:Int)),(by first | rfl | (simp;done) | (simp [*];done)),H',⟨Nat.le_refl _⟩,by repeat (first | exact Drawn0.refl _ | apply Drawn0.step)⟩
 case round =>
  clear H'
  try clear c1
  obtain ⟨x3_1,rfl,HA,HK1,⟨m1,rfl⟩⟩:=hrel
  cases gk with
  | zero=>exact absurd HA.out (by simp [nat_size.l0])
  | succ k1 =>
    have H:=HA.out
    clear HA
    simp only [nat_size.l0] at H
    by_cases c2:x3_1>0
    · rw [if_pos c2] at H
      have c2b0:decide (0<x3_1)=true:=decide_eq_true c2
      clear c2
      obtain ⟨ji3,hji3⟩ : ∃ j_:Int,(wrap64 (x3_1-1))=j_:=⟨_,rfl⟩
      replace H:(if 0≤(ji3) then (if (ji3)<(l0.length:Int) then (if (rd l0 (ji3))=0 then (nat_size.l0 k1 l0 ji3) else (some x3_1)) else (none)) else (none))=some r:=by first | (rw [hji3] at H;exact H) | (simp only [hji3] at H ⊢;exact H)
      have hji3w:(IntKind.i64.wrap (x3_1-1))=ji3:=(i64_w _).trans hji3
      by_cases c4:0≤(ji3)
      · rw [if_pos c4] at H
        have c4b0:decide (0≤(ji3))=true:=decide_eq_true c4
        clear c4
        by_cases c5:(ji3)<(l0.length:Int)
        · rw [if_pos c5] at H
          have c5b0:decide ((ji3)<(l0.length:Int))=true:=decide_eq_true c5
          clear c5
          by_cases c6:(rd l0 (ji3))=0
          · rw [if_pos c6] at H
            have c6b0:((rd l0 (ji3))==0)=true:=beq_iff_eq.mpr c6
            have c6b1:((rd l0 (ji3)) !=0)=false:=bne_eq_false_iff_eq.mpr c6
            clear c6
            have H':=Aside0.mk H
            clear H
            have p113:0≤((ji3):Int):=of_decide_eq_true (by first | (with_reducible assumption) | assumption)
            have q113:(ji3)<(l0.length:Int):=of_decide_eq_true (by first | (with_reducible assumption) | assumption)
            obtain ⟨ad113,e113,hx113_0⟩:=Kd.at_int HR0.out (ji3) p113 q113
            cases e113
            replace p113:=eq_true p113
            replace q113:=eq_true q113
            go_wp2
            go_roundg k1
            case measure=>have:=HK1.out;omega
            case rel=>exact ⟨(ji3),(by first | rfl | (simp;done) | (simp only [← hji3]<;>(first | rfl | simp)) | (simp [*];done)),H',⟨by have:=HK1.out;omega⟩,by repeat (first | exact Drawn0.refl _ | apply Drawn0.step)⟩
          · rw [if_neg c6] at H
            have c6b0:((rd l0 (ji3))==0)=false:=beq_eq_false_iff_ne.mpr c6
            have c6b1:((rd l0 (ji3)) !=0)=true:=bne_iff_ne.mpr c6
            obtain rfl:=Option.some.inj H
            have p113:0≤((ji3):Int):=of_decide_eq_true (by first | (with_reducible assumption) | assumption)
            have q113:(ji3)<(l0.length:Int):=of_decide_eq_true (by first | (with_reducible assumption) | assumption)
            obtain ⟨ad113,e113,hx113_0⟩:=Kd.at_int HR0.out (ji3) p113 q113
            cases e113
            replace p113:=eq_true p113
            replace q113:=eq_true q113
            go_wp2
            go_ret
            exact ⟨by first | rfl | (simp;done) | (simp only [← hji3]<;>(first | rfl | simp)) | (simp [*];done),by repeat (first | exact Drawn0.refl _ | apply Drawn0.step)⟩
        · rw [if_neg c5] at H
          exact absurd H (by simp)
      · rw [if_neg c4] at H
        exact absurd H (by simp)
    · rw [if_neg c2] at H
      have c2b0:decide (0<x3_1)=false:=decide_eq_false c2
      clear c2
      obtain rfl:=Option.some.inj H
      go_wp2
      go_ret
      exact ⟨by first | rfl | (simp;done) | (simp [*];done),by repeat (first | exact Drawn0.refl _ | apply Drawn0.step)⟩

/-! ### nat_Trim: function 187 -/
def nat_Trim.f (k:Nat) (l0:List Int):Option (List Int):=(some (([]:List Int):List Int)).bind fun y114=>((nat_size.f k l0).bind fun t117=>(if 0≤t117 then (if t117≤(l0.length:Int) then (if y114.length+(l0.take (t117:Int).toNat).length<17592186044416 then (some (y114++(l0.take (t117:Int).toNat))) else (none)) else (none)) else (none)))
set_option maxHeartbeats 8000000 in
set_option maxRecDepth 100000 in
theorem nat_Trim.calls (k:Nat) (A0:Option Addr) (c0:Nat) (l0:List Int) (r:List Int) (w:World) (hr0:Kd.C (Kd.int .u64) w A0 l0.length l0) (hc0:l0.length≤c0) (h:nat_Trim.f k l0=some r) :
 Calls Tryz.prog 187 #[.slice A0 l0.length c0] w fun e w'=> ∃ v0_:Value,e= .returned (v0_)∧Kd.R (Kd.int .u64) 73 w' w.heap.size (fun _=>True) v0_ r∧Below w.heap.size w w':=by
 have HR0:=Aside0.mk hr0
 have HC0:=Aside0.mk hc0
 clear hr0 hc0
 have HB:=Aside0.mk (Below.refl w.heap.size w)
 have H:((some (([]:List Int):List Int)).bind fun y114=>((nat_size.f k l0).bind fun t117=>(if 0≤t117 then (if t117≤(l0.length:Int) then (if y114.length+(l0.take (t117:Int).toNat).length<17592186044416 then (some (y114++(l0.take (t117:Int).toNat))) else (none)) else (none)) else (none))))=some r:=h
 clear h
 obtain ⟨y114,hy114⟩ : ∃ y_:List Int,y_=(([]:List Int)):=⟨_,rfl⟩
 replace H:((nat_size.f k l0).bind fun t117=>(if 0≤t117 then (if t117≤(l0.length:Int) then (if y114.length+(l0.take (t117:Int).toNat).length<17592186044416 then (some (y114++(l0.take (t117:Int).toNat))) else (none)) else (none)) else (none)))=some r:=by first | (rw [hy114];with_reducible exact H) | (have H2_:=(Option.bind_some _ _).symm.trans H;rw [hy114];with_reducible exact H2_) | (have H2_:=(Option.bind_some _ _).symm.trans H;with_reducible exact H2_) | with_reducible exact H | (rw [hy114];exact H) | exact H
 have Ny114:=Aside0.mk hy114
 clear hy114
 replace H:=Option.bind_eq_some_iff.mp H
 obtain ⟨t117,A20,H⟩:=H
 replace H:(if 0≤t117 then (if t117≤(l0.length:Int) then (if y114.length+(l0.take (t117:Int).toNat).length<17592186044416 then (some (y114++(l0.take (t117:Int).toNat))) else (none)) else (none)) else (none))=some r:=H
 have A2:=Aside0.mk A20
 clear A20
 by_cases c3:0≤t117
 · rw [if_pos c3] at H
   have c3b0:=eq_true c3
   have c3b1:decide (0≤t117)=true:=decide_eq_true c3
   clear c3
   by_cases c4:t117≤(l0.length:Int)
   · rw [if_pos c4] at H
     have c4b0:=eq_true c4
     have c4b1:decide (t117≤(l0.length:Int))=true:=decide_eq_true c4
     clear c4
     by_cases c5:y114.length+(l0.take (t117:Int).toNat).length<17592186044416
     · rw [if_pos c5] at H
       have LMc5:=Aside0.mk c5
       clear c5
       obtain ⟨y119,hy119⟩ : ∃ y_:List Int,y_=(y114++(l0.take (t117:Int).toNat)):=⟨_,rfl⟩
       replace H:(some y119)=some r:=by first | (rw [hy119];with_reducible exact H) | (have H2_:=(Option.bind_some _ _).symm.trans H;rw [hy119];with_reducible exact H2_) | (have H2_:=(Option.bind_some _ _).symm.trans H;with_reducible exact H2_) | with_reducible exact H | (rw [hy119];exact H) | exact H
       have Ny119:=Aside0.mk hy119
       clear hy119
       obtain rfl:=Option.some.inj H
       go_enter Tryz.func187,Tryz.ntmps187
       go_wp2_with (first | ((with_reducible refine gate_dst (N:=3) rfl ?_);refine Kd.R_lit (Kd.int .u64) _ 73 ?hg (N:=3) ?hd (xs:=([]:List Int)) (inner:= []) (ok:=fun _=>True) (okp:=fun _=>True) ?hr ?hp (fun _ hk=>hk) trivial (Below.refl _ _) (Nat.le_refl _) (by simp) ?_;(case hd=>rfl);(case hg=>rfl);(case hr=>first | (go_simp;done) | (go_simp;rfl));(case hp=>exact (Reps.none _ _));intro v115 w6 ho7 hb hg_ hnew_;clear hg_ hnew_;(first | rw [← Ny114.out] at ho7 | (simp only [Int.reduceToNat] at ho7;rw [← Ny114.out] at ho7));have n0_:=Aside0.mk (Kd.R_lower ho7 (below_size (by repeat (first | (with_reducible first | exact HB.out | apply below_alloc | apply pw_below_drewN | apply below_drew1) | exact HB.out))));have n1_:=Aside0.mk (below_step (by repeat (first | (with_reducible first | exact HB.out | apply below_alloc | apply pw_below_drewN | apply below_drew1) | exact HB.out)) hb);clear HB;have HO116:=n0_;have HB:=n1_;clear n0_ n1_;clear hb ho7) | ((with_reducible refine gate_callee (f:=192) rfl ?_);refine goesL_ (some 6) rfl rfl Tryz.func192 (by kernel_rfl) rfl #[.slice A0 l0.length c0] rfl (by (try simp only [List.map_toArray,List.map_cons,List.map_nil]);first | done | rfl | (simp only [List.length_drop,List.length_take];rfl) | (simp only [*];done)) ?_;(with_reducible refine (nat_size.calls k _ _ l0 t117 _ ?side1 ?side2 A2.out).mono ?_);(case side1=>repeat (first | exact (Kd.C_below HR0.out HB.out) | (with_reducible refine Kd.C_alloc ?_ _) | (with_reducible refine Kd.C_drewN ?_ _) | (with_reducible refine Kd.C_drew ?_)));(case side2=>exact HC0.out);rintro e w' ⟨rfl,⟨nd,rfl⟩⟩;refine ⟨_,rfl, ?_⟩;obtain ⟨i08,hi08,_,hsz8,_⟩:=info_parts info73;obtain ⟨hcut8,hA8,hC8⟩:=print_take_of (P:=Tryz.prog) (Value.int .u64) 0 43 73 .i64 Tryz.underlying43 hi08 hsz8 A0 c0 l0 t117 (of_decide_eq_true (by first | (with_reducible assumption) | assumption)) (of_decide_eq_true (by first | (with_reducible assumption) | assumption)) HC0.out;have HR118:=Aside0.mk (Kd.C_of_reads (h1:=fun _=>rfl) (hA8 _ (Kd.reads_of_C HR0.out)));have HC118:=Aside0.mk hC8;clear hA8 hC8 hi08 hsz8) | ((with_reducible refine gate_builtin (b:= .append) (xs:= #[.tmp 3, .tmp 7]) rfl ?_);at_builtin;refine Kd.R_append_rows (Kd.int .u64) (w0:=w) w.heap.size rfl (.tmp 3) (.tmp 7) 43 73 (.int .u64 0) 8 rfl Tryz.underlying43 info73 rfl (by decide) (by omega) v115 y114 (l0.take (t117:Int).toNat) _ _ _ (fun _=>True) (fun _=>False) rfl rfl ?aO ?aR (fun _ _ h=>h) (fun _ h=>h.elim) ?aF ?aB ?aS ?aL ?_;(case aR=>first | (refine cut_rows_len (show (l0.take (t117:Int).toNat).length=t117.toNat from (by rw [List.length_take];have h_:(t117:Int)≤(l0.length:Int):=of_decide_eq_true (by first | (with_reducible assumption) | assumption);omega)) ?_;repeat (first | exact (Kd.C_below HR118.out (by repeat (first | (with_reducible first | exact HB.out | apply below_alloc | apply pw_below_drewN | apply below_drew1) | exact HB.out))) | (with_reducible refine Kd.C_alloc ?_ _) | (with_reducible refine Kd.C_drewN ?_ _) | (with_reducible refine Kd.C_drew ?_))) | (repeat (first | exact (Kd.C_below HR118.out (by repeat (first | (with_reducible first | exact HB.out | apply below_alloc | apply pw_below_drewN | apply below_drew1) | exact HB.out))) | (with_reducible refine Kd.C_alloc ?_ _) | (with_reducible refine Kd.C_drewN ?_ _) | (with_reducible refine Kd.C_drew ?_))));(case aB=>exact (by repeat (first | (with_reducible first | exact HB.out | apply below_alloc | apply pw_below_drewN | apply below_drew1) | exact HB.out)));(case aF=>exact (fun _ _=>trivial));(case aO=>exact (by (with_reducible repeat (first | apply Kd.R_alloc | apply Kd.R_drewN | apply Kd.R_drew));exact HO116.out));(case aS=>exact (below_size (by repeat (first | (with_reducible first | exact HB.out | apply below_alloc | apply pw_below_drewN | apply below_drew1) | exact HB.out))));(case aL=>have:=LMc5.out;have hlx_:=(show (l0.take (t117:Int).toNat).length=t117.toNat from (by rw [List.length_take];have h_:(t117:Int)≤(l0.length:Int):=of_decide_eq_true (by first | (with_reducible assumption) | assumption);omega));omega);intro v120 w9 ho hb hg hat;rw [← Ny119.out] at ho;have n0_:=Aside0.mk (hb);have n1_:=Aside0.mk (ho);clear HB;clear HO116;have HB:=n0_;have HO121:=n1_;clear n0_ n1_;clear ho hb hg hat))
       go_ret
       exact ⟨_,by first | rfl | (simp [errW_none,errW_some]<;>rfl) | (simp [*,errW_none,errW_some]<;>rfl),by (with_reducible repeat (first | apply Kd.R_alloc | apply Kd.R_drewN | apply Kd.R_drew));exact HO121.out,by repeat (first | (with_reducible first | exact HB.out | apply below_alloc | apply pw_below_drewN | apply below_drew1) | exact HB.out)⟩
     · rw [if_neg c5] at H
       exact absurd H (by simp)
   · rw [if_neg c4] at H
     exact absurd H (by simp)
 · rw [if_neg c3] at H
   exact absurd H (by simp)

/-! ### nat_Of: function 113 -/
def nat_Of.f (k:Nat) (a0:Int):Option (List Int):=(nat_Trim.f k (([a0]:List Int))).bind fun t352=>(some t352)

/-! ### nat_Cmp: function 153 -/
def nat_Cmp.l0:Nat→List Int→List Int→Int→Option (Int)
 | 0,_,_,_=>none
 | k+1,x0,x1,x7=>if x7≥0 then (if 0≤x7 then (if x7<(x0.length:Int) then (if x7<(x1.length:Int) then (if (rd x0 x7)<(rd x1 x7) then (some (-1)) else (if (rd x0 x7)>(rd x1 x7) then (some 1) else (nat_Cmp.l0 k x0 x1 (wrap64 (x7-1))))) else (none)) else (none)) else (none)) else (some 0)
def nat_Cmp.f (k:Nat) (l0:List Int) (l1:List Int):Option (Int):=(nat_size.f k l0).bind fun t725=>((nat_size.f k l1).bind fun t726=>(if t725=t726 then (nat_Cmp.l0 k l0 l1 (wrap64 (t725-1))) else (if t725<t726 then (some (-1)) else (some 1))))

/-! ### nat_Word: function 115 -/
def nat_Word.f (k:Nat) (l0:List Int):Option (Int × Bool):=(nat_size.f k l0).bind fun t358=>(if t358=0 then (some (0,true)) else (if t358=1 then (if 0<(l0.length:Int) then (some (rd l0 0,true)) else (none)) else (some (0,false))))

/-! ### limb_Len: function 87 -/
def limb_Len.l0:Nat→Int→Int→Int→Option (Int)
 | 0,_,_,_=>none
 | k+1,x0,x3,x4=>if x4>0 then (if 0≤x4 then (if (shr .u64 x0 x4)>0 then (limb_Len.l0 k (shr .u64 x0 x4) (wrap64 (x3+x4)) (x4/2)) else (limb_Len.l0 k x0 x3 (x4/2))) else (none)) else (some (wrap64 (x3+(wrap64 (x0)))))
def limb_Len.f (k:Nat) (a0:Int):Option (Int):=limb_Len.l0 k a0 0 32

/-! ### limb_digit: function 150 -/
mutual
def limb_digit.l0:Nat→Int→Int→Int→Int→Int→Int→Int→Option (Int × Int)
 | 0,_,_,_,_,_,_,_=>none
 | k+1,x0,x1,x2,x8,x9,x10,x11=>if x10>4294967295 then (limb_digit.j1 k x0 x1 x2 x8 x9 x10 x11 true) else (limb_digit.j1 k x0 x1 x2 x8 x9 x10 x11 (decide ((IntKind.u64.wrap (x10*x8))>(Go.bits .or .u64 (IntKind.u64.wrap (x11*4294967296)) x1))))
def limb_digit.j1:Nat→Int→Int→Int→Int→Int→Int→Int→Bool→Option (Int × Int)
 | 0,_,_,_,_,_,_,_,_=>none
 | k+1,x0,x1,x2,x8,x9,x10,x11,x33=>if x33=true then (if (IntKind.u64.wrap (x11+x9))>4294967295 then (some (IntKind.u64.wrap (x10-1),IntKind.u64.wrap ((IntKind.u64.wrap ((IntKind.u64.wrap (x0*4294967296))+x1))-(IntKind.u64.wrap ((IntKind.u64.wrap (x10-1))*x2))))) else (limb_digit.l0 k x0 x1 x2 x8 x9 (IntKind.u64.wrap (x10-1)) (IntKind.u64.wrap (x11+x9)))) else (some (x10,IntKind.u64.wrap ((IntKind.u64.wrap ((IntKind.u64.wrap (x0*4294967296))+x1))-(IntKind.u64.wrap (x10*x2)))))
end
def limb_digit.f (k:Nat) (a0:Int) (a1:Int) (a2:Int):Option (Int × Int):=if (a2/4294967296)=0 then (none) else (limb_digit.l0 k a0 a1 a2 (Go.bits .and .u64 a2 4294967295) (a2/4294967296) (IntKind.u64.wrap (Int.tdiv a0 (a2/4294967296))) (Int.tmod a0 (a2/4294967296)))

/-! ### limb_Div: function 122 -/
def limb_Div.f (k:Nat) (a0:Int) (a1:Int) (a2:Int):Option (Int × Int × Bool):=if a0≥a2 then (some (0,0,false)) else ((limb_Len.f k a2).bind fun t731=>(if 0≤(wrap64 (64-t731)) then (if 0≤(wrap64 (63-(wrap64 (64-t731)))) then ((limb_digit.f k (Go.bits .or .u64 (shl .u64 a0 (wrap64 (64-t731))) (shr .u64 (a1/2) (wrap64 (63-(wrap64 (64-t731)))))) ((shl .u64 a1 (wrap64 (64-t731)))/4294967296) (shl .u64 a2 (wrap64 (64-t731)))).bind fun bt732=>((limb_digit.f k bt732.2 (Go.bits .and .u64 (shl .u64 a1 (wrap64 (64-t731))) 4294967295) (shl .u64 a2 (wrap64 (64-t731)))).bind fun bt734=>(some (Go.bits .or .u64 (IntKind.u64.wrap (bt732.1*4294967296)) bt734.1,shr .u64 bt734.2 (wrap64 (64-t731)),true)))) else (none)) else (none)))

/-! ### quot_Word: function 154 -/
def quot_Word.l0:Nat→List Int→Int→List Int→Int→Int→Option (List Int × Int × Bool)
 | 0,_,_,_,_,_=>none
 | k+1,x0,x1,x7,x8,x9=>if x9≥0 then (if 0≤x9 then (if x9<(x0.length:Int) then ((limb_Div.f k x8 (rd x0 x9) x1).bind fun bt740=>(if x9<(x7.length:Int) then (quot_Word.l0 k x0 x1 (x7.set (x9:Int).toNat bt740.1) bt740.2.1 (wrap64 (x9-1))) else (none))) else (none)) else (none)) else ((nat_Trim.f k x7).bind fun t744=>(some (t744,x8,true)))
def quot_Word.f (k:Nat) (l0:List Int) (a1:Int):Option (List Int × Int × Bool):=if a1=0 then (some (([]:List Int),0,false)) else (if 0≤(l0.length:Int) then (if ((l0.length:Int):Int).toNat≤35184372088832 then (quot_Word.l0 k l0 a1 (List.replicate ((l0.length:Int):Int).toNat 0) 0 (wrap64 ((l0.length:Int)-1))) else (none)) else (none))

/-! ### nat_Shl: function 210 -/
def nat_Shl.l0:Nat→Int→List Int→Int→List Int→Int→Int→Option (List Int)
 | 0,_,_,_,_,_,_=>none
 | k+1,x6,x7,x8,x25,x26,x27=>if x27<x26 then (if 0≤x27 then (if x27<(x25.length:Int) then (if x7.length<17592186044416 then (nat_Shl.l0 k x6 (x7++ [Go.bits .or .u64 (IntKind.u64.wrap ((rd x25 x27)*2^x6.toNat)) x8]) (((rd x25 x27)/2)/2^(63-x6).toNat) x25 x26 (wrap64 (x27+1))) else (none)) else (none)) else (none)) else (if x7.length<17592186044416 then ((nat_Trim.f k (x7++ [x8])).bind fun t163=>(some t163)) else (none))
def nat_Shl.f (k:Nat) (l0:List Int) (a1:Int):Option (List Int):=if ((mn (mx a1 0) 65536)/64)≥0 then (if ((mn (mx a1 0) 65536)/64)≤(wrap64 ((wrap64 (((mn (mx a1 0) 65536)/64)+(l0.length:Int)))+1)) then (if (wrap64 ((wrap64 (((mn (mx a1 0) 65536)/64)+(l0.length:Int)))+1):Int).toNat≤35184372088832 then (nat_Shl.l0 k ((mn (mx a1 0) 65536)%64) (List.replicate ((mn (mx a1 0) 65536)/64:Int).toNat 0) 0 l0 (l0.length:Int) 0) else (none)) else (none)) else (none)
set_option maxHeartbeats 8000000 in
set_option maxRecDepth 100000 in
theorem nat_Shl.calls (k:Nat) (A0:Option Addr) (c0:Nat) (l0:List Int) (a1:Int) (r:List Int) (w:World) (hr0:Kd.C (Kd.int .u64) w A0 l0.length l0) (hc0:l0.length≤c0) (h:nat_Shl.f k l0 a1=some r) :
 Calls Tryz.prog 210 #[.slice A0 l0.length c0, .int .i64 a1] w fun e w'=> ∃ v0_:Value,e= .returned (v0_)∧Kd.R (Kd.int .u64) 73 w' w.heap.size (fun _=>True) v0_ r∧Below w.heap.size w w':=by
 have HR0:=Aside0.mk hr0
 have HC0:=Aside0.mk hc0
 clear hr0 hc0
 have HB:=Aside0.mk (Below.refl w.heap.size w)
 have H:(if ((mn (mx a1 0) 65536)/64)≥0 then (if ((mn (mx a1 0) 65536)/64)≤(wrap64 ((wrap64 (((mn (mx a1 0) 65536)/64)+(l0.length:Int)))+1)) then (if (wrap64 ((wrap64 (((mn (mx a1 0) 65536)/64)+(l0.length:Int)))+1):Int).toNat≤35184372088832 then (nat_Shl.l0 k ((mn (mx a1 0) 65536)%64) (List.replicate ((mn (mx a1 0) 65536)/64:Int).toNat 0) 0 l0 (l0.length:Int) 0) else (none)) else (none)) else (none))=some r:=h
 clear h
 obtain ⟨ji3,hji3⟩ : ∃ j_:Int,(mx a1 0)=j_:=⟨_,rfl⟩
 replace H:(if ((mn (ji3) 65536)/64)≥0 then (if ((mn (ji3) 65536)/64)≤(wrap64 ((wrap64 (((mn (ji3) 65536)/64)+(l0.length:Int)))+1)) then (if (wrap64 ((wrap64 (((mn (ji3) 65536)/64)+(l0.length:Int)))+1):Int).toNat≤35184372088832 then (nat_Shl.l0 k ((mn (ji3) 65536)%64) (List.replicate ((mn (ji3) 65536)/64:Int).toNat 0) 0 l0 (l0.length:Int) 0) else (none)) else (none)) else (none))=some r:=by first | (rw [hji3] at H;exact H) | (simp only [hji3] at H ⊢;exact H)
 (try (have hji3l:0≤ji3:=by (rw [← hji3];unfold mx;(repeat' split)<;>omega)))
 (try (have hji3m:0≤ji3:=by omega))
 (try (have hji3t : ∀ m_:Int,Int.tdiv ji3 m_=ji3/m_:=fun m_=>Int.tdiv_eq_ediv_of_nonneg (by omega)))
 have hji3_:(if a1<0 then 0 else a1)=ji3:=hji3
 obtain ⟨ji4,hji4⟩ : ∃ j_:Int,(mn (ji3) 65536)=j_:=⟨_,rfl⟩
 replace H:(if ((ji4)/64)≥0 then (if ((ji4)/64)≤(wrap64 ((wrap64 (((ji4)/64)+(l0.length:Int)))+1)) then (if (wrap64 ((wrap64 (((ji4)/64)+(l0.length:Int)))+1):Int).toNat≤35184372088832 then (nat_Shl.l0 k ((ji4)%64) (List.replicate ((ji4)/64:Int).toNat 0) 0 l0 (l0.length:Int) 0) else (none)) else (none)) else (none))=some r:=by first | (rw [hji4] at H;exact H) | (simp only [hji4] at H ⊢;exact H)
 have hji4_:(if 65536<(ji3) then 65536 else (ji3))=ji4:=hji4
 by_cases c5:((ji4)/64)≥0
 · rw [if_pos c5] at H
   have c5b0:=eq_true c5
   have c5b1:decide (((ji4)/64)≥0)=true:=decide_eq_true c5
   clear c5
   by_cases c6:((ji4)/64)≤(wrap64 ((wrap64 (((ji4)/64)+(l0.length:Int)))+1))
   · rw [if_pos c6] at H
     have c6b0:=eq_true c6
     have c6b1:decide (((ji4)/64)≤(wrap64 ((wrap64 (((ji4)/64)+(l0.length:Int)))+1)))=true:=decide_eq_true c6
     by_cases c7:(wrap64 ((wrap64 (((ji4)/64)+(l0.length:Int)))+1):Int).toNat≤35184372088832
     · rw [if_pos c7] at H
       have c7b0:=eq_true c7
       have c7b1:decide ((wrap64 ((wrap64 (((ji4)/64)+(l0.length:Int)))+1):Int).toNat≤35184372088832)=true:=decide_eq_true c7
       obtain ⟨y153,hy153⟩ : ∃ y_:List Int,y_=(List.replicate ((ji4)/64:Int).toNat 0):=⟨_,rfl⟩
       replace H:(nat_Shl.l0 k ((ji4)%64) y153 0 l0 (l0.length:Int) 0)=some r:=by first | (rw [hy153];with_reducible exact H) | (have H2_:=(Option.bind_some _ _).symm.trans H;rw [hy153];with_reducible exact H2_) | (have H2_:=(Option.bind_some _ _).symm.trans H;with_reducible exact H2_) | with_reducible exact H | (rw [hy153];exact H) | exact H
       have Ny153:=Aside0.mk hy153
       clear hy153
       have H':=Aside0.mk H
       clear H
       go_enter Tryz.func210,Tryz.ntmps210
       go_wp2_with (first | ((with_reducible refine gate_dst (N:=24) rfl ?_);refine Kd.R_makecap (Kd.int .u64) _ 73 rfl (N:=24) rfl 43 _ _ rfl ((ji4)/64) (wrap64 ((wrap64 (((ji4)/64)+(l0.length:Int)))+1)) rfl rfl Tryz.underlying43 (.int .u64 0) 8 info73 rfl (by decide) (by omega) 0 (ok:=fun _=>True) (okp:=fun _=>True) rfl (fun _ hk=>hk) trivial (of_decide_eq_true (by first | (with_reducible assumption) | assumption)) (of_decide_eq_true (by first | (with_reducible assumption) | assumption)) (Nat.le_trans (Nat.mul_le_mul_right _ (of_decide_eq_true (by first | (with_reducible assumption) | assumption):(wrap64 ((wrap64 (((ji4)/64)+(l0.length:Int)))+1):Int).toNat≤35184372088832)) (by omega)) (Below.refl _ _) (Nat.le_refl _) ?_;intro v154 w8 ho9 hb hg_ hnew_;clear hg_ hnew_;(first | rw [← Ny153.out] at ho9 | (simp only [Int.reduceToNat] at ho9;rw [← Ny153.out] at ho9));have n0_:=Aside0.mk (Kd.R_lower ho9 (below_size (by repeat (first | (with_reducible first | exact HB.out | apply below_alloc | apply pw_below_drewN | apply below_drew1) | exact HB.out))));have n1_:=Aside0.mk (below_step (by repeat (first | (with_reducible first | exact HB.out | apply below_alloc | apply pw_below_drewN | apply below_drew1) | exact HB.out)) hb);clear HB;have HO155:=n0_;have HB:=n1_;clear n0_ n1_;clear hb ho9))
       go_loopg [7,8,27] k (fun kq v7 v8 v27 w'=> ∃ (x7_1:List Int) (x8_1:Int) (x27_1:Int),v8= .int .u64 x8_1∧v27= .int .i64 x27_1∧Aside0 (nat_Shl.l0 kq ((ji4)%64) x7_1 x8_1 l0 (l0.length:Int) x27_1=some r)∧Aside0 (kq≤k)∧Aside0 (Kd.R (Kd.int .u64) 73 w' w.heap.size (fun _=>True) v7 x7_1)∧Aside0 (Below w.heap.size w w'))
       case atStart=>exact ⟨(y153),(0),(0),(by first | rfl | (simp;done) | (simp [*];done)),(by first | rfl | (simp;done) | (simp [*];done)),H',⟨Nat.le_refl _⟩,⟨by (with_reducible repeat (first | apply Kd.R_alloc | apply Kd.R_drewN | apply Kd.R_drew));exact HO155.out⟩,⟨by repeat (first | (with_reducible first | exact HB.out | apply below_alloc | apply pw_below_drewN | apply below_drew1) | exact HB.out)⟩⟩
       case round =>
        clear H'
        try clear c2
        try clear p2
        try clear c5
        try clear c5b0
        try clear c5b1
        try clear c6
        try clear c6b0
        try clear c6b1
        try clear p6
        try clear c7
        try clear c7b0
        try clear c7b1
        obtain ⟨x7_1,x8_1,x27_1,rfl,rfl,HA,HK1,HO_7,HB⟩:=hrel
        cases gk with
        | zero=>exact absurd HA.out (by simp [nat_Shl.l0])
        | succ k1 =>
          have H:=HA.out
          clear HA
          simp only [nat_Shl.l0] at H
          by_cases c10:x27_1<(l0.length:Int)
          · rw [if_pos c10] at H
            have c10b0:decide (x27_1<(l0.length:Int))=true:=decide_eq_true c10
            clear c10
            by_cases c11:0≤x27_1
            · rw [if_pos c11] at H
              have c11b0:decide (0≤x27_1)=true:=decide_eq_true c11
              clear c11
              by_cases c12:x27_1<(l0.length:Int)
              · rw [if_pos c12] at H
                have c12b0:decide (x27_1<(l0.length:Int))=true:=decide_eq_true c12
                clear c12
                (try (have c13m:min (((ji4)%64):Int).toNat 64=(((ji4)%64):Int).toNat:=by omega))
                by_cases c14:x7_1.length<17592186044416
                · rw [if_pos c14] at H
                  have LMc14:=Aside0.mk c14
                  clear c14
                  obtain ⟨y157,hy157⟩ : ∃ y_:List Int,y_=(x7_1++ [Go.bits .or .u64 (IntKind.u64.wrap ((rd l0 x27_1)*2^((ji4)%64).toNat)) x8_1]):=⟨_,rfl⟩
                  replace H:(nat_Shl.l0 k1 ((ji4)%64) y157 (((rd l0 x27_1)/2)/2^(63-((ji4)%64)).toNat) l0 (l0.length:Int) (wrap64 (x27_1+1)))=some r:=by first | (rw [hy157];with_reducible exact H) | (have H2_:=(Option.bind_some _ _).symm.trans H;rw [hy157];with_reducible exact H2_) | (have H2_:=(Option.bind_some _ _).symm.trans H;with_reducible exact H2_) | with_reducible exact H | (rw [hy157];exact H) | exact H
                  have Ny157:=Aside0.mk hy157
                  clear hy157
                  (try (have c15m:min ((63-((ji4)%64)):Int).toNat 64=((63-((ji4)%64)):Int).toNat:=by omega))
                  have H':=Aside0.mk H
                  clear H
                  have p156:0≤(x27_1:Int):=of_decide_eq_true (by first | (with_reducible assumption) | assumption)
                  have q156:x27_1<(l0.length:Int):=of_decide_eq_true (by first | (with_reducible assumption) | assumption)
                  obtain ⟨ad156,e156,hx156_0⟩:=Kd.at_int HR0.out x27_1 p156 q156
                  cases e156
                  replace hx156_0:=(HB.out.cell (World.block_lt_of_cell? w _ hx156_0)).trans hx156_0
                  replace p156:=eq_true p156
                  replace q156:=eq_true q156
                  go_wp2_with (first | ((with_reducible refine gate_builtin (b:= .append) (xs:= #[.tmp 31, .tmp 37]) rfl ?_);at_builtin;refine Kd.R_append (Kd.int .u64) (w0:=w) w.heap.size rfl (.tmp 31) (.tmp 37) 43 73 (.int .u64 0) 8 rfl Tryz.underlying43 info73 rfl (by decide) (by omega) u7 x7_1 (Go.bits .or .u64 (IntKind.u64.wrap ((rd l0 x27_1)*2^((ji4)%64).toNat)) x8_1) [.int .u64 (Go.bits .or .u64 (IntKind.u64.wrap ((rd l0 x27_1)*2^((ji4)%64).toNat)) x8_1)] (fun _=>True) (fun _=>False) rfl rfl ?aP (fun _ hk=>hk.elim) ?aF ?aO ?aB ?aS ?aL ?_;(case aP=>exact rfl);(case aB=>exact (by repeat (first | (with_reducible first | exact HB.out | apply below_alloc | apply pw_below_drewN | apply below_drew1) | exact HB.out)));(case aF=>exact (fun _ _=>trivial));(case aO=>exact (by (with_reducible repeat (first | apply Kd.R_alloc | apply Kd.R_drewN | apply Kd.R_drew));exact HO_7.out));(case aS=>exact (below_size (by repeat (first | (with_reducible first | exact HB.out | apply below_alloc | apply pw_below_drewN | apply below_drew1) | exact HB.out))));(case aL=>have:=LMc14.out;omega);intro v158 w16 ho hb hg hat;rw [← Ny157.out] at ho;have n0_:=Aside0.mk (hb);have n1_:=Aside0.mk (ho);clear HB;clear HO_7;have HB:=n0_;have HO159:=n1_;clear n0_ n1_;clear ho hb hg hat))
                  go_roundg k1
                  case measure=>have:=HK1.out;omega
                  case rel=>exact ⟨(y157),(((rd l0 x27_1)/2)/2^(63-((ji4)%64)).toNat),(wrap64 (x27_1+1)),(by first | rfl | (simp;done) | (simp only [← hji4]<;>(first | rfl | simp)) | (simp [*];done)),(by first | rfl | (simp;done) | (simp [*];done)),H',⟨by have:=HK1.out;omega⟩,⟨by (with_reducible repeat (first | apply Kd.R_alloc | apply Kd.R_drewN | apply Kd.R_drew));exact HO159.out⟩,⟨by repeat (first | (with_reducible first | exact HB.out | apply below_alloc | apply pw_below_drewN | apply below_drew1) | exact HB.out)⟩⟩
                · rw [if_neg c14] at H
                  exact absurd H (by simp)
              · rw [if_neg c12] at H
                exact absurd H (by simp)
            · rw [if_neg c11] at H
              exact absurd H (by simp)
          · rw [if_neg c10] at H
            have c10b0:decide (x27_1<(l0.length:Int))=false:=decide_eq_false c10
            clear c10
            by_cases c17:x7_1.length<17592186044416
            · rw [if_pos c17] at H
              have LMc17:=Aside0.mk c17
              clear c17
              obtain ⟨y160,hy160⟩ : ∃ y_:List Int,y_=(x7_1++ [x8_1]):=⟨_,rfl⟩
              replace H:((nat_Trim.f k1 y160).bind fun t163=>(some t163))=some r:=by first | (rw [hy160];with_reducible exact H) | (have H2_:=(Option.bind_some _ _).symm.trans H;rw [hy160];with_reducible exact H2_) | (have H2_:=(Option.bind_some _ _).symm.trans H;with_reducible exact H2_) | with_reducible exact H | (rw [hy160];exact H) | exact H
              have Ny160:=Aside0.mk hy160
              clear hy160
              replace H:=Option.bind_eq_some_iff.mp H
              obtain ⟨t163,A180,H⟩:=H
              replace H:(some t163)=some r:=H
              have A18:=Aside0.mk A180
              clear A180
              obtain rfl:=Option.some.inj H
              go_wp2_with (first | ((with_reducible refine gate_builtin (b:= .append) (xs:= #[.tmp 45, .tmp 47]) rfl ?_);at_builtin;refine Kd.R_append (Kd.int .u64) (w0:=w) w.heap.size rfl (.tmp 45) (.tmp 47) 43 73 (.int .u64 0) 8 rfl Tryz.underlying43 info73 rfl (by decide) (by omega) u7 x7_1 x8_1 [.int .u64 x8_1] (fun _=>True) (fun _=>False) rfl rfl ?aP (fun _ hk=>hk.elim) ?aF ?aO ?aB ?aS ?aL ?_;(case aP=>exact rfl);(case aB=>exact (by repeat (first | (with_reducible first | exact HB.out | apply below_alloc | apply pw_below_drewN | apply below_drew1) | exact HB.out)));(case aF=>exact (fun _ _=>trivial));(case aO=>exact (by (with_reducible repeat (first | apply Kd.R_alloc | apply Kd.R_drewN | apply Kd.R_drew));exact HO_7.out));(case aS=>exact (below_size (by repeat (first | (with_reducible first | exact HB.out | apply below_alloc | apply pw_below_drewN | apply below_drew1) | exact HB.out))));(case aL=>have:=LMc17.out;omega);intro v161 w19 ho hb hg hat;rw [← Ny160.out] at ho;have n0_:=Aside0.mk (hb);have n1_:=Aside0.mk (ho);clear HB;clear HO_7;have HB:=n0_;have HO162:=n1_;clear n0_ n1_;clear ho hb hg hat;obtain ⟨Ao20,co20,eo20⟩:=Kd.R_slice HO162.out;subst eo20) | ((with_reducible refine gate_callee (f:=187) rfl ?_);refine goesL_ (some 49) rfl rfl Tryz.func187 (by kernel_rfl) rfl #[.slice Ao20 y160.length co20] rfl (by (try simp only [List.map_toArray,List.map_cons,List.map_nil]);first | done | rfl | (simp only [List.length_drop,List.length_take];rfl) | (simp only [*];done)) ?_;(with_reducible refine (nat_Trim.calls k1 _ _ y160 t163 _ ?side1 ?side2 A18.out).mono ?_);(case side1=>repeat (first | exact (Kd.R_reads' HO162.out).2.2 | (with_reducible refine Kd.C_alloc ?_ _) | (with_reducible refine Kd.C_drewN ?_ _) | (with_reducible refine Kd.C_drew ?_)));(case side2=>exact (Kd.R_reads' HO162.out).2.1);rintro e w21 ⟨v164,rfl,ho0,hb⟩;refine ⟨_,rfl, ?_⟩;have n0_:=Aside0.mk (Kd.R_elder' (by (with_reducible repeat (first | apply Kd.R_alloc | apply Kd.R_drewN | apply Kd.R_drew));exact HO162.out) (Kd.R_base ho0) hb);have n1_:=Aside0.mk (Kd.R_lower (Kd.R_new' ho0 (Kd.R_lt (by (with_reducible repeat (first | apply Kd.R_alloc | apply Kd.R_drewN | apply Kd.R_drew));exact HO162.out))) (below_size (by repeat (first | (with_reducible first | exact HB.out | apply below_alloc | apply pw_below_drewN | apply below_drew1) | exact HB.out))));have n2_:=Aside0.mk (below_step (by repeat (first | (with_reducible first | exact HB.out | apply below_alloc | apply pw_below_drewN | apply below_drew1) | exact HB.out)) hb);clear HO162;clear HB;have HO162:=n0_;have HO165:=n1_;have HB:=n2_;clear n0_ n1_ n2_;(try clear hb);(try clear hb2);(try clear hk);(try clear hi);(try clear ho0)))
              go_ret
              exact ⟨_,by first | rfl | (simp [errW_none,errW_some]<;>rfl) | (simp only [← hji3,← hji4];first | rfl | (simp [errW_none,errW_some]<;>rfl)) | (simp [*,errW_none,errW_some]<;>rfl),by (with_reducible repeat (first | apply Kd.R_alloc | apply Kd.R_drewN | apply Kd.R_drew));exact Kd.R_mono HO165.out (fun _ hk=>trivial),by repeat (first | (with_reducible first | exact HB.out | apply below_alloc | apply pw_below_drewN | apply below_drew1) | exact HB.out)⟩
            · rw [if_neg c17] at H
              exact absurd H (by simp)
     · rw [if_neg c7] at H
       exact absurd H (by simp)
   · rw [if_neg c6] at H
     exact absurd H (by simp)
 · rw [if_neg c5] at H
   exact absurd H (by simp)

/-! ### nat_Bits: function 114 -/
def nat_Bits.f (k:Nat) (l0:List Int):Option (Int):=(nat_size.f k l0).bind fun t355=>(if t355=0 then (some 0) else (if 0≤(wrap64 (t355-1)) then (if (wrap64 (t355-1))<(l0.length:Int) then ((limb_Len.f k (rd l0 (wrap64 (t355-1)))).bind fun t357=>(some (wrap64 ((wrap64 (64*(wrap64 (t355-1))))+t357)))) else (none)) else (none)))

/-! ### nat_Shr: function 116 -/
def nat_Shr.l0:Nat→List Int→Int→List Int→Int→Option (List Int)
 | 0,_,_,_,_=>none
 | k+1,x0,x6,x7,x8=>if x8<(x0.length:Int) then (if (wrap64 (x8+1))<(x0.length:Int) then (if 0≤(wrap64 (x8+1)) then (if 0≤x8 then (if x7.length<17592186044416 then (nat_Shr.l0 k x0 x6 (x7++ [Go.bits .or .u64 ((rd x0 x8)/2^x6.toNat) (IntKind.u64.wrap ((IntKind.u64.wrap ((rd x0 (wrap64 (x8+1)))*2))*2^(63-x6).toNat))]) (wrap64 (x8+1))) else (none)) else (none)) else (none)) else (if 0≤x8 then (if x7.length<17592186044416 then (nat_Shr.l0 k x0 x6 (x7++ [Go.bits .or .u64 ((rd x0 x8)/2^x6.toNat) 0]) (wrap64 (x8+1))) else (none)) else (none))) else ((nat_Trim.f k x7).bind fun t372=>(some t372))
def nat_Shr.f (k:Nat) (l0:List Int) (a1:Int):Option (List Int):=if (wrap64 ((mx a1 0)/64))≥(l0.length:Int) then (some ([]:List Int)) else (if 0≤(wrap64 ((l0.length:Int)-(wrap64 ((mx a1 0)/64)))) then (if (wrap64 ((l0.length:Int)-(wrap64 ((mx a1 0)/64))):Int).toNat≤35184372088832 then (nat_Shr.l0 k l0 ((mx a1 0)%64) (List.replicate 0 0) (wrap64 ((mx a1 0)/64))) else (none)) else (none))

/-! ### limb_Mul: function 120 -/
def limb_Mul.f (a0:Int) (a1:Int):Option (Int × Int):=some (IntKind.u64.wrap ((IntKind.u64.wrap ((IntKind.u64.wrap ((a0/4294967296)*(a1/4294967296)))+((IntKind.u64.wrap ((IntKind.u64.wrap ((Go.bits .and .u64 a0 4294967295)*(a1/4294967296)))+((IntKind.u64.wrap ((Go.bits .and .u64 a0 4294967295)*(Go.bits .and .u64 a1 4294967295)))/4294967296)))/4294967296)))+((IntKind.u64.wrap ((IntKind.u64.wrap ((a0/4294967296)*(Go.bits .and .u64 a1 4294967295)))+(Go.bits .and .u64 (IntKind.u64.wrap ((IntKind.u64.wrap ((Go.bits .and .u64 a0 4294967295)*(a1/4294967296)))+((IntKind.u64.wrap ((Go.bits .and .u64 a0 4294967295)*(Go.bits .and .u64 a1 4294967295)))/4294967296))) 4294967295)))/4294967296)),Go.bits .or .u64 (IntKind.u64.wrap ((IntKind.u64.wrap ((IntKind.u64.wrap ((a0/4294967296)*(Go.bits .and .u64 a1 4294967295)))+(Go.bits .and .u64 (IntKind.u64.wrap ((IntKind.u64.wrap ((Go.bits .and .u64 a0 4294967295)*(a1/4294967296)))+((IntKind.u64.wrap ((Go.bits .and .u64 a0 4294967295)*(Go.bits .and .u64 a1 4294967295)))/4294967296))) 4294967295)))*4294967296)) (Go.bits .and .u64 (IntKind.u64.wrap ((Go.bits .and .u64 a0 4294967295)*(Go.bits .and .u64 a1 4294967295))) 4294967295))

/-! ### limb_Sub: function 163 -/
def limb_Sub.f (a0:Int) (a1:Int) (a2:Int):Option (Int × Int):=if a0<a1 then (if (IntKind.u64.wrap (a0-a1))<a2 then (some (IntKind.u64.wrap ((IntKind.u64.wrap (a0-a1))-a2),(0+1)+1)) else (some (IntKind.u64.wrap ((IntKind.u64.wrap (a0-a1))-a2),0+1))) else (if (IntKind.u64.wrap (a0-a1))<a2 then (some (IntKind.u64.wrap ((IntKind.u64.wrap (a0-a1))-a2),0+1)) else (some (IntKind.u64.wrap ((IntKind.u64.wrap (a0-a1))-a2),0)))

/-! ### quot_correct: function 162 -/
def quot_correct.l0:Nat→Int→Int→Int→Int→Int→Int→Option (Int)
 | 0,_,_,_,_,_,_=>none
 | k+1,x0,x1,x2,x3,x4,x5=>(limb_Mul.f x0 x4).bind fun bt747=>((limb_Sub.f x2 bt747.2 0).bind fun bt749=>((limb_Sub.f x1 bt747.1 bt749.2).bind fun bt751=>((limb_Mul.f x0 x5).bind fun bt753=>(if bt751.1=0 then (if bt753.1<bt749.1 then (some x0) else (if bt753.1=bt749.1 then (if bt753.2≤x3 then (some x0) else (quot_correct.l0 k (IntKind.u64.wrap (x0-1)) x1 x2 x3 x4 x5)) else (quot_correct.l0 k (IntKind.u64.wrap (x0-1)) x1 x2 x3 x4 x5))) else (some x0)))))
def quot_correct.f (k:Nat) (a0:Int) (a1:Int) (a2:Int) (a3:Int) (a4:Int) (a5:Int):Option (Int):=quot_correct.l0 k a0 a1 a2 a3 a4 a5

/-! ### quot_guess: function 158 -/
def quot_guess.f (k:Nat) (l0:List Int) (a1:Int) (a2:Int) (a3:Int):Option (Int):=if 0≤a1 then (if a1<(l0.length:Int) then (if 0≤(wrap64 (a1-1)) then (if (wrap64 (a1-1))<(l0.length:Int) then (if 0≤(wrap64 (a1-2)) then (if (wrap64 (a1-2))<(l0.length:Int) then (if (rd l0 a1)≥a2 then ((quot_correct.f k 18446744073709551615 (rd l0 a1) (rd l0 (wrap64 (a1-1))) (rd l0 (wrap64 (a1-2))) a2 a3).bind fun t758=>(some t758)) else ((limb_Div.f k (rd l0 a1) (rd l0 (wrap64 (a1-1))) a2).bind fun bt759=>((quot_correct.f k bt759.1 (rd l0 a1) (rd l0 (wrap64 (a1-1))) (rd l0 (wrap64 (a1-2))) a2 a3).bind fun t762=>(some t762)))) else (none)) else (none)) else (none)) else (none)) else (none)) else (none)

/-! ### limb_Add: function 147 -/
def limb_Add.f (a0:Int) (a1:Int) (a2:Int):Option (Int × Int):=if (IntKind.u64.wrap (a0+a1))<a0 then (if (IntKind.u64.wrap ((IntKind.u64.wrap (a0+a1))+a2))<(IntKind.u64.wrap (a0+a1)) then (some (IntKind.u64.wrap ((IntKind.u64.wrap (a0+a1))+a2),(0+1)+1)) else (some (IntKind.u64.wrap ((IntKind.u64.wrap (a0+a1))+a2),0+1))) else (if (IntKind.u64.wrap ((IntKind.u64.wrap (a0+a1))+a2))<(IntKind.u64.wrap (a0+a1)) then (some (IntKind.u64.wrap ((IntKind.u64.wrap (a0+a1))+a2),0+1)) else (some (IntKind.u64.wrap ((IntKind.u64.wrap (a0+a1))+a2),0)))

/-! ### quot_take: function 159 -/
def quot_take.l0:Nat→List Int→List Int→Int→Int→Int→Int→List Int→Int→Int→Option (Bool × List Int)
 | 0,_,_,_,_,_,_,_,_,_=>none
 | k+1,x0,x1,x2,x3,x9,x10,x20,x21,x22=>if x22<x21 then (if 0≤x22 then (if x22<(x20.length:Int) then ((limb_Mul.f (rd x20 x22) x3).bind fun bt764=>((limb_Add.f bt764.2 x9 0).bind fun bt766=>(if 0≤(wrap64 (x2+x22)) then (if (wrap64 (x2+x22))<(x0.length:Int) then ((limb_Sub.f (rd x0 (wrap64 (x2+x22))) bt766.1 x10).bind fun bt769=>(quot_take.l0 k (x0.set ((wrap64 (x2+x22)):Int).toNat bt769.1) x1 x2 x3 (IntKind.u64.wrap (bt764.1+bt766.2)) bt769.2 x20 x21 (wrap64 (x22+1)))) else (none)) else (none)))) else (none)) else (none)) else (if 0≤(wrap64 (x2+(x1.length:Int))) then (if (wrap64 (x2+(x1.length:Int)))<(x0.length:Int) then ((limb_Sub.f (rd x0 (wrap64 (x2+(x1.length:Int)))) x9 x10).bind fun bt773=>(some ((bt773.2 !=0),(x0.set ((wrap64 (x2+(x1.length:Int))):Int).toNat bt773.1)))) else (none)) else (none))
def quot_take.f (k:Nat) (l0:List Int) (l1:List Int) (a2:Int) (a3:Int):Option (Bool × List Int):=quot_take.l0 k l0 l1 a2 a3 0 0 l1 (l1.length:Int) 0

/-! ### quot_back: function 160 -/
def quot_back.l0:Nat→List Int→List Int→Int→Int→List Int→Int→Int→Option (List Int)
 | 0,_,_,_,_,_,_,_=>none
 | k+1,x0,x1,x2,x6,x11,x12,x13=>if x13<x12 then (if 0≤x13 then (if x13<(x11.length:Int) then (if 0≤(wrap64 (x2+x13)) then (if (wrap64 (x2+x13))<(x0.length:Int) then ((limb_Add.f (rd x0 (wrap64 (x2+x13))) (rd x11 x13) x6).bind fun bt778=>(quot_back.l0 k (x0.set ((wrap64 (x2+x13)):Int).toNat bt778.1) x1 x2 bt778.2 x11 x12 (wrap64 (x13+1)))) else (none)) else (none)) else (none)) else (none)) else (if 0≤(wrap64 (x2+(x1.length:Int))) then (if (wrap64 (x2+(x1.length:Int)))<(x0.length:Int) then (some (x0.set ((wrap64 (x2+(x1.length:Int))):Int).toNat (IntKind.u64.wrap ((rd x0 (wrap64 (x2+(x1.length:Int))))+x6)))) else (none)) else (none))
def quot_back.f (k:Nat) (l0:List Int) (l1:List Int) (a2:Int):Option (List Int):=quot_back.l0 k l0 l1 a2 0 l1 (l1.length:Int) 0

/-! ### quot_long: function 155 -/
mutual
def quot_long.l0:Nat→List Int→Int→List Int→List Int→Option (List Int × List Int)
 | 0,_,_,_,_=>none
 | k+1,x0,x6,x7,x8=>if (x8.length:Int)<(wrap64 ((x0.length:Int)+1)) then (if x8.length<17592186044416 then (quot_long.l0 k x0 x6 x7 (x8++ [0])) else (none)) else (if 0≤(wrap64 ((x8.length:Int)-(x7.length:Int))) then (if (wrap64 ((x8.length:Int)-(x7.length:Int)):Int).toNat≤35184372088832 then ((some (List.replicate (wrap64 ((x8.length:Int)-(x7.length:Int)):Int).toNat 0:List Int)).bind fun y793=>(quot_long.l1 k x6 x7 x8 (x7.length:Int) y793 (wrap64 ((y793.length:Int)-1)))) else (none)) else (none))
def quot_long.l1:Nat→Int→List Int→List Int→Int→List Int→Int→Option (List Int × List Int)
 | 0,_,_,_,_,_,_=>none
 | k+1,x6,x7,x8,x9,x10,x11=>if x11≥0 then (if 0≤(wrap64 (x9-1)) then (if (wrap64 (x9-1))<(x7.length:Int) then (if 0≤(wrap64 (x9-2)) then (if (wrap64 (x9-2))<(x7.length:Int) then ((quot_guess.f k x8 (wrap64 (x11+x9)) (rd x7 (wrap64 (x9-1))) (rd x7 (wrap64 (x9-2)))).bind fun t804=>((quot_take.f k x8 x7 x11 t804).bind fun bt805=>(if bt805.1=true then ((quot_back.f k bt805.2 x7 x11).bind fun t807=>(if 0≤x11 then (if x11<(x10.length:Int) then (quot_long.l1 k x6 x7 t807 x9 (x10.set (x11:Int).toNat (IntKind.u64.wrap (t804-1))) (wrap64 (x11-1))) else (none)) else (none))) else (if 0≤x11 then (if x11<(x10.length:Int) then (quot_long.l1 k x6 x7 bt805.2 x9 (x10.set (x11:Int).toNat t804) (wrap64 (x11-1))) else (none)) else (none))))) else (none)) else (none)) else (none)) else (none)) else ((nat_Trim.f k x10).bind fun t796=>((nat_Shr.f k x8 x6).bind fun t799=>(some (t796,t799))))
end
def quot_long.f (k:Nat) (l0:List Int) (l1:List Int):Option (List Int × List Int):=(nat_Bits.f k l1).bind fun t783=>((nat_Shl.f k l1 (wrap64 ((wrap64 (64*(l1.length:Int)))-t783))).bind fun t784=>((nat_Shl.f k l0 (wrap64 ((wrap64 (64*(l1.length:Int)))-t783))).bind fun t787=>(quot_long.l0 k l0 (wrap64 ((wrap64 (64*(l1.length:Int)))-t783)) t784 t787)))

/-! ### quot_Div: function 133 -/
def quot_Div.f (k:Nat) (l0:List Int) (l1:List Int):Option (List Int × List Int × Bool):=(nat_Trim.f k l0).bind fun t810=>((nat_Trim.f k l1).bind fun t813=>(if (t813.length:Int)=0 then (some (([]:List Int),([]:List Int),false)) else ((nat_Cmp.f k t810 t813).bind fun t816=>(if t816<0 then (some (([]:List Int),t810,true)) else (if (t813.length:Int)=1 then (if 0<(t813.length:Int) then ((quot_Word.f k t810 (rd t813 0)).bind fun bt818=>((nat_Of.f k bt818.2.1).bind fun t823=>(some (bt818.1,t823,true)))) else (none)) else ((quot_long.f k t810 t813).bind fun bt826=>(some (bt826.1,bt826.2,true))))))))

/-! ### gcd_words: function 165 -/
def gcd_words.l0:Nat→Int→Int→Option (Int)
 | 0,_,_=>none
 | k+1,x0,x1=>if x1=0 then (some x0) else (gcd_words.l0 k x1 (Int.tmod x0 x1))
def gcd_words.f (k:Nat) (a0:Int) (a1:Int):Option (Int):=gcd_words.l0 k a0 a1

/-! ### gcd_Gcd: function 164 -/
def gcd_Gcd.l0:Nat→List Int→List Int→Option (List Int)
 | 0,_,_=>none
 | k+1,x0,x1=>if (x1.length:Int)>1 then ((quot_Div.f k x0 x1).bind fun bt956=>(gcd_Gcd.l0 k x1 bt956.2.1)) else ((nat_Word.f k x1).bind fun bt963=>(if bt963.1=0 then (some x0) else ((quot_Word.f k x0 bt963.1).bind fun bt965=>((gcd_words.f k bt963.1 bt965.2.1).bind fun t970=>((nat_Of.f k t970).bind fun t971=>(some t971))))))
def gcd_Gcd.f (k:Nat) (l0:List Int) (l1:List Int):Option (List Int):=(nat_Trim.f k l0).bind fun t950=>((nat_Trim.f k l1).bind fun t953=>(gcd_Gcd.l0 k t950 t953))

/-! ### gcd_Coprime: function 96 -/
def gcd_Coprime.f (k:Nat) (l0:List Int) (l1:List Int):Option (Bool):=(gcd_Gcd.f k l0 l1).bind fun t591=>((nat_Of.f k 1).bind fun t594=>((nat_Cmp.f k t591 t594).bind fun t597=>(some (t597==0))))

/-! ### rat_Right: function 101 -/
def rat_Right.f (k:Nat) (a0_0:Bool) (l0_1:List Int) (l0_2:List Int):Option (Bool):=(nat_Right.f l0_1).bind fun t599=>(if t599=true then ((nat_Right.f l0_2).bind fun t600=>(if t600=true then (if (l0_2.length:Int)>0 then ((gcd_Coprime.f k l0_1 l0_2).bind fun t601=>(if t601=true then (if a0_0=true then (some (!((l0_1.length:Int)==0))) else (some (!false))) else (some false))) else (some false)) else (some false))) else (some false))

/-! ### line_Arity: function by hand -/
def line_Arity.j4:Nat→Option (Int)
 | 0=>none
 | k+1=>some 0
def line_Arity.f (k:Nat) (a0:Int):Option (Int):=if a0=1 then (line_Arity.j4 k) else (if a0=2 then (line_Arity.j4 k) else (if a0=3 then (some 1) else (if a0=8 then (some 1) else (if a0=9 then (some 1) else (if a0=10 then (some 1) else (if a0=4 then (some 2) else (if a0=5 then (some 2) else (if a0=6 then (some 2) else (if a0=7 then (some 2) else (some (-1)))))))))))

/-! ### line_none: function 203 -/
def line_none.f (a0_0:Bool) (l0_1:List Int) (l0_2:List Int):Option (Bool):=if a0_0=true then (some false) else (if (l0_1.length:Int)=0 then (some ((l0_2.length:Int)==0)) else (some false))

/-! ### line_fits: function by hand -/
def line_fits.f (k:Nat) (a0_0:Int) (a0_1:Int) (a0_2:Int) (a0_3:Bool) (a0_4:List Int) (a0_5:List Int) (a1:Int):Option (Bool):=(line_Arity.f k a0_0).bind fun t1=>(if t1=1 then (if a0_1≥0 then (if a0_1<a1 then (if a0_2=0 then ((line_none.f a0_3 a0_4 a0_5).bind fun t2=>(some t2)) else (some false)) else (some false)) else (some false)) else (if t1=2 then (if a0_1≥0 then (if a0_1<a1 then (if a0_2≥0 then (if a0_2<a1 then ((line_none.f a0_3 a0_4 a0_5).bind fun t3=>(some t3)) else (some false)) else (some false)) else (some false)) else (some false)) else (if a0_0=1 then (if a0_1≥0 then (if a0_1<65536 then (if a0_2=0 then ((line_none.f a0_3 a0_4 a0_5).bind fun t4=>(some t4)) else (some false)) else (some false)) else (some false)) else (if a0_0=2 then (if a0_1=0 then (if a0_2=0 then ((rat_Right.f k a0_3 a0_4 a0_5).bind fun t5=>(some t5)) else (some false)) else (some false)) else (some false)))))

/-! ### line_Right: function by hand -/
def line_Right.l0:Nat→(List (Int × Int × Int × Bool × (List Int) × List Int))→Int→Int→Option (Bool)
 | 0,_,_,_=>none
 | k+1,x8,x9,x10=>if x10<x9 then (if 0≤x10 then (if x10<(x8.length:Int) then ((line_fits.f k (rd_iiibLL x8 x10).1 (rd_iiibLL x8 x10).2.1 (rd_iiibLL x8 x10).2.2.1 (rd_iiibLL x8 x10).2.2.2.1 (rd_iiibLL x8 x10).2.2.2.2.1 (rd_iiibLL x8 x10).2.2.2.2.2 x10).bind fun t1=>(if t1=true then (line_Right.l0 k x8 x9 (wrap64 (x10+1))) else (some false))) else none) else none) else (some true)
def line_Right.f (k:Nat) (a0:List (Int × Int × Int × Bool × (List Int) × List Int)):Option (Bool):=if (a0.length:Int)>65536 then (some false) else (line_Right.l0 k a0 (a0.length:Int) 0)

/-! ### evals_right: function by hand -/
def evals_right.l0:Nat→(List (Bool × (List Int) × List Int))→Int→Int→Option (Bool)
 | 0,_,_,_=>none
 | k+1,x5,x6,x7=>if x7<x6 then (if 0≤x7 then (if x7<(x5.length:Int) then ((rat_Right.f k (rd_bLL x5 x7).1 (rd_bLL x5 x7).2.1 (rd_bLL x5 x7).2.2).bind fun t1=>(if t1=true then (evals_right.l0 k x5 x6 (wrap64 (x7+1))) else (some false))) else none) else none) else (some true)
def evals_right.f (k:Nat) (a0:List (Bool × (List Int) × List Int)):Option (Bool):=evals_right.l0 k a0 (a0.length:Int) 0

/-! ### gcd_Reduce: function 161 -/
def gcd_Reduce.f (k:Nat) (l0:List Int) (l1:List Int):Option (List Int × List Int):=(gcd_Gcd.f k l0 l1).bind fun t974=>(if (t974.length:Int)=0 then (some (([]:List Int),([]:List Int))) else ((quot_Div.f k l0 t974).bind fun bt977=>((quot_Div.f k l1 t974).bind fun bt984=>(some (bt977.1,bt984.1)))))

/-! ### rat_lowest: function 157 -/
def rat_lowest.f (k:Nat) (a0:Bool) (l1:List Int) (l2:List Int):Option (Bool × List Int × List Int):=(gcd_Reduce.f k l1 l2).bind fun bt992=>(if a0=true then (some (decide ((bt992.1.length:Int)>0),bt992.1,bt992.2)) else (some (false,bt992.1,bt992.2)))

/-! ### prod_rows: function 144 -/
mutual
def prod_rows.l0:Nat→List Int→List Int→List Int→Int→Int→Option (List Int)
 | 0,_,_,_,_,_=>none
 | k+1,x1,x5,x21,x22,x23=>if x23<x22 then (if 0≤x23 then (if x23<(x21.length:Int) then (prod_rows.l1 k x1 x5 x23 (rd x21 x23) 0 x21 x22 x23 x1 (x1.length:Int) 0) else (none)) else (none)) else ((nat_Trim.f k x5).bind fun t334=>(some t334))
def prod_rows.l1:Nat→List Int→List Int→Int→Int→Int→List Int→Int→Int→List Int→Int→Int→Option (List Int)
 | 0,_,_,_,_,_,_,_,_,_,_,_=>none
 | k+1,x1,x5,x6,x7,x8,x21,x22,x23,x28,x29,x30=>if x30<x29 then (if 0≤x30 then (if x30<(x28.length:Int) then ((limb_Mul.f x7 (rd x28 x30)).bind fun bt339=>(if 0≤(wrap64 (x6+x30)) then (if (wrap64 (x6+x30))<(x5.length:Int) then ((limb_Add.f (rd x5 (wrap64 (x6+x30))) bt339.2 x8).bind fun bt342=>(prod_rows.l1 k x1 (x5.set ((wrap64 (x6+x30)):Int).toNat bt342.1) x6 x7 (IntKind.u64.wrap (bt339.1+bt342.2)) x21 x22 x23 x28 x29 (wrap64 (x30+1)))) else (none)) else (none))) else (none)) else (none)) else (if 0≤(wrap64 (x6+(x1.length:Int))) then (if (wrap64 (x6+(x1.length:Int)))<(x5.length:Int) then (prod_rows.l0 k x1 (x5.set ((wrap64 (x6+(x1.length:Int))):Int).toNat x8) x21 x22 (wrap64 (x23+1))) else (none)) else (none))
end
def prod_rows.f (k:Nat) (l0:List Int) (l1:List Int):Option (List Int):=if 0≤(wrap64 ((l0.length:Int)+(l1.length:Int))) then (if (wrap64 ((l0.length:Int)+(l1.length:Int)):Int).toNat≤35184372088832 then (prod_rows.l0 k l1 (List.replicate (wrap64 ((l0.length:Int)+(l1.length:Int)):Int).toNat 0) l0 (l0.length:Int) 0) else (none)) else (none)

/-! ### nat_Sub: function 62 -/
def nat_Sub.l0:Nat→List Int→List Int→Int→List Int→Int→Int→Option (List Int × Bool)
 | 0,_,_,_,_,_,_=>none
 | k+1,x1,x6,x7,x18,x19,x20=>if x20<x19 then (if 0≤x20 then (if x20<(x18.length:Int) then (if x20<(x1.length:Int) then ((limb_Sub.f (rd x18 x20) (rd x1 x20) x7).bind fun bt352=>(if x6.length<17592186044416 then (nat_Sub.l0 k x1 (x6++ [bt352.1]) bt352.2 x18 x19 (wrap64 (x20+1))) else (none))) else ((limb_Sub.f (rd x18 x20) 0 x7).bind fun bt357=>(if x6.length<17592186044416 then (nat_Sub.l0 k x1 (x6++ [bt357.1]) bt357.2 x18 x19 (wrap64 (x20+1))) else (none)))) else (none)) else (none)) else ((nat_Trim.f k x6).bind fun t362=>(some (t362,true)))
def nat_Sub.f (k:Nat) (l0:List Int) (l1:List Int):Option (List Int × Bool):=(nat_Cmp.f k l0 l1).bind fun t346=>(if t346<0 then (some (([]:List Int),false)) else (if 0≤(l0.length:Int) then (if ((l0.length:Int):Int).toNat≤35184372088832 then (nat_Sub.l0 k l1 (List.replicate 0 0) 0 l0 (l0.length:Int) 0) else (none)) else (none)))

/-! ### nat_Add: function 111 -/
mutual
def nat_Add.l0:Nat→List Int→List Int→Int→List Int→Int→Int→Option (List Int)
 | 0,_,_,_,_,_,_=>none
 | k+1,x1,x5,x6,x21,x22,x23=>if x23<x22 then (if 0≤x23 then (if x23<(x21.length:Int) then (if x23<(x1.length:Int) then ((limb_Add.f (rd x21 x23) (rd x1 x23) x6).bind fun bt299=>(if x5.length<17592186044416 then (nat_Add.l0 k x1 (x5++ [bt299.1]) bt299.2 x21 x22 (wrap64 (x23+1))) else (none))) else ((limb_Add.f (rd x21 x23) 0 x6).bind fun bt304=>(if x5.length<17592186044416 then (nat_Add.l0 k x1 (x5++ [bt304.1]) bt304.2 x21 x22 (wrap64 (x23+1))) else (none)))) else (none)) else (none)) else (if x5.length<17592186044416 then ((nat_Trim.f k (x5++ [x6])).bind fun t312=>(some t312)) else (none))
def nat_Add.l1:Nat→List Int→List Int→Int→List Int→Int→Int→Option (List Int)
 | 0,_,_,_,_,_,_=>none
 | k+1,x1,x5,x6,x21,x22,x23=>if x23<x22 then (if 0≤x23 then (if x23<(x21.length:Int) then (if x23<(x1.length:Int) then ((limb_Add.f (rd x21 x23) (rd x1 x23) x6).bind fun bt320=>(if x5.length<17592186044416 then (nat_Add.l1 k x1 (x5++ [bt320.1]) bt320.2 x21 x22 (wrap64 (x23+1))) else (none))) else ((limb_Add.f (rd x21 x23) 0 x6).bind fun bt325=>(if x5.length<17592186044416 then (nat_Add.l1 k x1 (x5++ [bt325.1]) bt325.2 x21 x22 (wrap64 (x23+1))) else (none)))) else (none)) else (none)) else (if x5.length<17592186044416 then ((nat_Trim.f k (x5++ [x6])).bind fun t333=>(some t333)) else (none))
end
def nat_Add.f (k:Nat) (l0:List Int) (l1:List Int):Option (List Int):=if (l0.length:Int)<(l1.length:Int) then (if 0≤(wrap64 ((l1.length:Int)+1)) then (if (wrap64 ((l1.length:Int)+1):Int).toNat≤35184372088832 then (nat_Add.l0 k l0 (List.replicate 0 0) 0 l1 (l1.length:Int) 0) else (none)) else (none)) else (if 0≤(wrap64 ((l0.length:Int)+1)) then (if (wrap64 ((l0.length:Int)+1):Int).toNat≤35184372088832 then (nat_Add.l1 k l1 (List.replicate 0 0) 0 l0 (l0.length:Int) 0) else (none)) else (none))

/-! ### prod_part: function 160 -/
def prod_part.f (k:Nat) (l0:List Int) (a1:Int) (a2:Int):Option (List Int):=if 0≤(mn a1 (l0.length:Int)) then (if (mn a1 (l0.length:Int))≤(mn a2 (l0.length:Int)) then (if (mn a2 (l0.length:Int))≤(l0.length:Int) then ((nat_Trim.f k ((l0.take ((mn a2 (l0.length:Int)):Int).toNat).drop ((mn a1 (l0.length:Int)):Int).toNat)).bind fun t408=>(some t408)) else (none)) else (none)) else (none)

/-! ### prod_above: function 161 -/
def prod_above.f (k:Nat) (l0:List Int) (a1:Int):Option (List Int):=if 0≤a1 then (if (a1:Int).toNat≤35184372088832 then ((some (List.replicate (a1:Int).toNat 0:List Int)).bind fun y411=>(if y411.length+l0.length<17592186044416 then ((nat_Trim.f k (y411++l0)).bind fun t417=>(some t417)) else (none))) else (none)) else (none)

/-! ### prod_halves: function 145 -/
def prod_halves.f (M:List Int→List Int→Option (List Int)) (k:Nat) (l0:List Int) (l1:List Int):Option (List Int):=(prod_part.f k l0 0 (wrap64 (Int.tdiv (wrap64 ((mx (l0.length:Int) (l1.length:Int))+1)) 2))).bind fun t420=>((prod_part.f k l0 (wrap64 (Int.tdiv (wrap64 ((mx (l0.length:Int) (l1.length:Int))+1)) 2)) (l0.length:Int)).bind fun t423=>((prod_part.f k l1 0 (wrap64 (Int.tdiv (wrap64 ((mx (l0.length:Int) (l1.length:Int))+1)) 2))).bind fun t426=>((prod_part.f k l1 (wrap64 (Int.tdiv (wrap64 ((mx (l0.length:Int) (l1.length:Int))+1)) 2)) (l1.length:Int)).bind fun t429=>((M t420 t426).bind fun t432=>((M t423 t429).bind fun t435=>((nat_Add.f k t420 t423).bind fun t438=>((nat_Add.f k t426 t429).bind fun t441=>((M t438 t441).bind fun t444=>((nat_Add.f k t432 t435).bind fun t447=>((nat_Sub.f k t444 t447).bind fun bt450=>((prod_above.f k bt450.1 (wrap64 (Int.tdiv (wrap64 ((mx (l0.length:Int) (l1.length:Int))+1)) 2))).bind fun t454=>((prod_above.f k t435 (wrap64 (2*(wrap64 (Int.tdiv (wrap64 ((mx (l0.length:Int) (l1.length:Int))+1)) 2))))).bind fun t457=>((nat_Add.f k t454 t457).bind fun t460=>((nat_Add.f k t432 t460).bind fun t463=>(some t463)))))))))))))))

/-! ### prod_Mul: function 71 -/
def prod_Mul.f:Nat→List Int→List Int→Option (List Int)
 | 0,_,_=>none
 | k+1,l0,l1=>if (l0.length:Int)<8 then ((prod_rows.f k l0 l1).bind fun t466=>(some t466)) else (if (l1.length:Int)<8 then ((prod_rows.f k l0 l1).bind fun t469=>(some t469)) else ((prod_halves.f (prod_Mul.f k) k l0 l1).bind fun t472=>(some t472)))

/-! ### rat_same: function 156 -/
def rat_same.f (k:Nat) (l0:List Int) (l1:List Int):Option (Bool):=(nat_Right.f l0).bind fun t476=>(if t476=true then ((nat_Right.f l1).bind fun t477=>(if t477=true then ((nat_Cmp.f k l0 l1).bind fun t478=>(some (t478==0))) else (some false))) else (some false))

/-! ### rat_sum: function 157 -/
def rat_sum.f (k:Nat) (a0:Bool) (l1:List Int) (a2:Bool) (l3:List Int):Option (Bool × List Int):=if (a0==a2)=true then ((nat_Add.f k l1 l3).bind fun t479=>(some (a0,t479))) else ((nat_Sub.f k l1 l3).bind fun bt482=>(if bt482.2=true then (some (a0,bt482.1)) else ((nat_Sub.f k l3 l1).bind fun bt486=>(some (a2,bt486.1)))))

/-! ### rat_one: function 155 -/
def rat_one.f  :Option (List Int):=some (([1]:List Int))

/-! ### rat_safe: function 158 -/
def rat_safe.f (k:Nat) (l0:List Int):Option (List Int):=(nat_Bits.f k l0).bind fun t490=>(if t490=0 then ((rat_one.f).bind fun t491=>(some t491)) else (some l0))

/-! ### rat_Add: function 112 -/
def rat_Add.f (k:Nat) (a0_0:Bool) (l0_1:List Int) (l0_2:List Int) (a1_0:Bool) (l1_1:List Int) (l1_2:List Int):Option (Bool × List Int × List Int):=(rat_same.f k l0_2 l1_2).bind fun t497=>(if t497=true then ((rat_sum.f k a0_0 l0_1 a1_0 l1_1).bind fun bt498=>((rat_safe.f k l0_2).bind fun t502=>((rat_lowest.f k bt498.1 bt498.2 t502).bind fun bt505=>(some (bt505.1,bt505.2.1,bt505.2.2))))) else ((prod_Mul.f k l0_1 l1_2).bind fun t512=>((prod_Mul.f k l1_1 l0_2).bind fun t515=>((rat_sum.f k a0_0 t512 a1_0 t515).bind fun bt518=>((prod_Mul.f k l0_2 l1_2).bind fun t522=>((rat_safe.f k t522).bind fun t525=>((rat_lowest.f k bt518.1 bt518.2 t525).bind fun bt528=>(some (bt528.1,bt528.2.1,bt528.2.2)))))))))

/-! ### rat_Mul: function 116 -/
def rat_Mul.f (k:Nat) (a0_0:Bool) (l0_1:List Int) (l0_2:List Int) (a1_0:Bool) (l1_1:List Int) (l1_2:List Int):Option (Bool × List Int × List Int):=(rat_safe.f k l1_2).bind fun t918=>((gcd_Reduce.f k l0_1 t918).bind fun bt921=>((rat_safe.f k l0_2).bind fun t927=>((gcd_Reduce.f k l1_1 t927).bind fun bt930=>((prod_Mul.f k bt921.1 bt930.1).bind fun t936=>((prod_Mul.f k bt930.2 bt921.2).bind fun t939=>((rat_lowest.f k (a0_0 !=a1_0) t936 t939).bind fun bt942=>(some (bt942.1,bt942.2.1,bt942.2.2))))))))

/-! ### rat_Neg: function 118 -/
def rat_Neg.f (k:Nat) (a0_0:Bool) (l0_1:List Int) (l0_2:List Int):Option (Bool × List Int × List Int):=if a0_0=true then ((nat_Trim.f k l0_1).bind fun t1061=>((nat_Trim.f k l0_2).bind fun t1064=>(some (false,t1061,t1064)))) else ((nat_Bits.f k l0_1).bind fun t1067=>((nat_Trim.f k l0_1).bind fun t1068=>((nat_Trim.f k l0_2).bind fun t1071=>(some (decide (t1067>0),t1068,t1071)))))

/-! ### rat_Sub: function 114 -/
def rat_Sub.f (k:Nat) (a0_0:Bool) (l0_1:List Int) (l0_2:List Int) (a1_0:Bool) (l1_1:List Int) (l1_2:List Int):Option (Bool × List Int × List Int):=(rat_Neg.f k a1_0 l1_1 l1_2).bind fun bt1077=>((rat_Add.f k a0_0 l0_1 l0_2 bt1077.1 bt1077.2.1 bt1077.2.2).bind fun bt1084=>(some (bt1084.1,bt1084.2.1,bt1084.2.2)))

/-! ### rat_Inv: function 109 -/
def rat_Inv.f (k:Nat) (a0_0:Bool) (l0_1:List Int) (l0_2:List Int):Option (Bool × List Int × List Int × Int):=(nat_Bits.f k l0_1).bind fun t908=>(if t908=0 then (some (false,([]:List Int),([]:List Int),4)) else ((nat_Trim.f k l0_2).bind fun t909=>((nat_Trim.f k l0_1).bind fun t912=>(some (a0_0,t909,t912,0)))))

/-! ### rat_Div: function 108 -/
def rat_Div.f (k:Nat) (a0_0:Bool) (l0_1:List Int) (l0_2:List Int) (a1_0:Bool) (l1_1:List Int) (l1_2:List Int):Option (Bool × List Int × List Int × Int):=(rat_Inv.f k a1_0 l1_1 l1_2).bind fun bt952=>(if bt952.2.2.2=0 then ((rat_Mul.f k a0_0 l0_1 l0_2 bt952.1 bt952.2.1 bt952.2.2.1).bind fun bt961=>(some (bt961.1,bt961.2.1,bt961.2.2,0))) else (some (false,([]:List Int),([]:List Int),bt952.2.2.2)))

/-! ### evals_exact_form: function by hand -/
def evals_exact_form.f (k:Nat) (s0_0:List (Bool × (List Int) × List Int)) (s0_1:List (Bool × (List Int) × List Int)) (s0_2:List (Bool × (List Int) × List Int)) (s0_3:Int):Option (Bool × List Int × List Int × Int × List (Bool × (List Int) × List Int) × List (Bool × (List Int) × List Int) × List (Bool × (List Int) × List Int) × Int):=if s0_3≥(s0_2.length:Int) then (some (false,([]:List Int),([]:List Int),6,s0_0,s0_1,s0_2,s0_3)) else (if 0≤(wrap64 ((wrap64 (s0_3+1))-1)) then (if (wrap64 ((wrap64 (s0_3+1))-1))<(s0_2.length:Int) then (some ((rd_bLL s0_2 (wrap64 ((wrap64 (s0_3+1))-1))).1,(rd_bLL s0_2 (wrap64 ((wrap64 (s0_3+1))-1))).2.1,(rd_bLL s0_2 (wrap64 ((wrap64 (s0_3+1))-1))).2.2,0,s0_0,s0_1,s0_2,(wrap64 (s0_3+1)))) else none) else none)

/-! ### evals_exact_step: function by hand -/
def evals_exact_step.f (k:Nat) (s0_0:List (Bool × (List Int) × List Int)) (s0_1:List (Bool × (List Int) × List Int)) (s0_2:List (Bool × (List Int) × List Int)) (s0_3:Int) (a1_0:Int) (a1_1:Int) (a1_2:Int) (a1_3:Bool) (a1_4:List Int) (a1_5:List Int):Option (Bool × List Int × List Int × Int × List (Bool × (List Int) × List Int) × List (Bool × (List Int) × List Int) × List (Bool × (List Int) × List Int) × Int):=if a1_0=1 then (if a1_1≥(s0_1.length:Int) then (some (false,([]:List Int),([]:List Int),11,s0_0,s0_1,s0_2,s0_3)) else (if 0≤a1_1 then (if a1_1<(s0_1.length:Int) then (some ((rd_bLL s0_1 a1_1).1,(rd_bLL s0_1 a1_1).2.1,(rd_bLL s0_1 a1_1).2.2,0,s0_0,s0_1,s0_2,s0_3)) else none) else none)) else (if a1_0=2 then (some (a1_3,a1_4,a1_5,0,s0_0,s0_1,s0_2,s0_3)) else (if a1_0=3 then (if 0≤a1_1 then (if a1_1<(s0_0.length:Int) then ((rat_Neg.f k (rd_bLL s0_0 a1_1).1 (rd_bLL s0_0 a1_1).2.1 (rd_bLL s0_0 a1_1).2.2).bind fun bt1=>(some (bt1.1,bt1.2.1,bt1.2.2,0,s0_0,s0_1,s0_2,s0_3))) else none) else none) else (if a1_0=4 then (if 0≤a1_1 then (if a1_1<(s0_0.length:Int) then (if 0≤a1_2 then (if a1_2<(s0_0.length:Int) then ((rat_Add.f k (rd_bLL s0_0 a1_1).1 (rd_bLL s0_0 a1_1).2.1 (rd_bLL s0_0 a1_1).2.2 (rd_bLL s0_0 a1_2).1 (rd_bLL s0_0 a1_2).2.1 (rd_bLL s0_0 a1_2).2.2).bind fun bt2=>(some (bt2.1,bt2.2.1,bt2.2.2,0,s0_0,s0_1,s0_2,s0_3))) else none) else none) else none) else none) else (if a1_0=5 then (if 0≤a1_1 then (if a1_1<(s0_0.length:Int) then (if 0≤a1_2 then (if a1_2<(s0_0.length:Int) then ((rat_Sub.f k (rd_bLL s0_0 a1_1).1 (rd_bLL s0_0 a1_1).2.1 (rd_bLL s0_0 a1_1).2.2 (rd_bLL s0_0 a1_2).1 (rd_bLL s0_0 a1_2).2.1 (rd_bLL s0_0 a1_2).2.2).bind fun bt3=>(some (bt3.1,bt3.2.1,bt3.2.2,0,s0_0,s0_1,s0_2,s0_3))) else none) else none) else none) else none) else (if a1_0=6 then (if 0≤a1_1 then (if a1_1<(s0_0.length:Int) then (if 0≤a1_2 then (if a1_2<(s0_0.length:Int) then ((rat_Mul.f k (rd_bLL s0_0 a1_1).1 (rd_bLL s0_0 a1_1).2.1 (rd_bLL s0_0 a1_1).2.2 (rd_bLL s0_0 a1_2).1 (rd_bLL s0_0 a1_2).2.1 (rd_bLL s0_0 a1_2).2.2).bind fun bt4=>(some (bt4.1,bt4.2.1,bt4.2.2,0,s0_0,s0_1,s0_2,s0_3))) else none) else none) else none) else none) else (if a1_0=7 then (if 0≤a1_1 then (if a1_1<(s0_0.length:Int) then (if 0≤a1_2 then (if a1_2<(s0_0.length:Int) then ((rat_Div.f k (rd_bLL s0_0 a1_1).1 (rd_bLL s0_0 a1_1).2.1 (rd_bLL s0_0 a1_1).2.2 (rd_bLL s0_0 a1_2).1 (rd_bLL s0_0 a1_2).2.1 (rd_bLL s0_0 a1_2).2.2).bind fun bt5=>(some (bt5.1,bt5.2.1,bt5.2.2.1,bt5.2.2.2,s0_0,s0_1,s0_2,s0_3))) else none) else none) else none) else none) else ((evals_exact_form.f k s0_0 s0_1 s0_2 s0_3).bind fun bt6=>(some (bt6.1,bt6.2.1,bt6.2.2.1,bt6.2.2.2.1,bt6.2.2.2.2.1,bt6.2.2.2.2.2.1,bt6.2.2.2.2.2.2.1,bt6.2.2.2.2.2.2.2)))))))))

/-! ### power_Bits: function 132 -/
def power_Bits.f (k:Nat) (a0_0:Bool) (l0_1:List Int) (l0_2:List Int):Option (Int):=(nat_Bits.f k l0_1).bind fun t1678=>((nat_Bits.f k l0_2).bind fun t1679=>(some (mx t1678 t1679)))

/-! ### evals_copied: function 87 -/
def evals_copied.f (a0_0:Bool) (l0_1:List Int) (l0_2:List Int):Option (Bool × List Int × List Int):=(some (([]:List Int):List Int)).bind fun y695=>(if y695.length+l0_1.length<17592186044416 then ((some (([]:List Int):List Int)).bind fun y701=>(if y701.length+l0_2.length<17592186044416 then (some (a0_0,(y695++l0_1),(y701++l0_2))) else (none))) else (none))

/-! ### evals_Exact: function by hand -/
mutual
def evals_Exact.l0:Nat→(List (Int × Int × Int × Bool × (List Int) × List Int))→Int→Int→(List (Bool × (List Int) × List Int))→(List (Bool × (List Int) × List Int))→(List (Bool × (List Int) × List Int))→Int→Option (List (Bool × (List Int) × List Int) × Int × Int)
 | 0,_,_,_,_,_,_,_=>none
 | k+1,x31,x32,x33,v30_0,v30_1,v30_2,v30_3=>if x33<x32 then (if 0≤x33 then (if x33<(x31.length:Int) then ((evals_exact_step.f k v30_0 v30_1 v30_2 v30_3 (rd_iiibLL x31 x33).1 (rd_iiibLL x31 x33).2.1 (rd_iiibLL x31 x33).2.2.1 (rd_iiibLL x31 x33).2.2.2.1 (rd_iiibLL x31 x33).2.2.2.2.1 (rd_iiibLL x31 x33).2.2.2.2.2).bind fun bt4=>(if bt4.2.2.2.1=0 then ((power_Bits.f k bt4.1 bt4.2.1 bt4.2.2.1).bind fun t5=>(if t5>4096 then (evals_Exact.j10 k x33 5 x31 x32 x33 bt4.1 bt4.2.1 bt4.2.2.1 bt4.2.2.2.2.1 bt4.2.2.2.2.2.1 bt4.2.2.2.2.2.2.1 bt4.2.2.2.2.2.2.2) else (evals_Exact.j10 k x33 bt4.2.2.2.1 x31 x32 x33 bt4.1 bt4.2.1 bt4.2.2.1 bt4.2.2.2.2.1 bt4.2.2.2.2.2.1 bt4.2.2.2.2.2.2.1 bt4.2.2.2.2.2.2.2))) else (evals_Exact.j10 k x33 bt4.2.2.2.1 x31 x32 x33 bt4.1 bt4.2.1 bt4.2.2.1 bt4.2.2.2.2.1 bt4.2.2.2.2.2.1 bt4.2.2.2.2.2.2.1 bt4.2.2.2.2.2.2.2))) else none) else none) else (some (v30_0,0,0))
def evals_Exact.j2:Nat→Option (List (Bool × (List Int) × List Int) × Int × Int)
 | 0=>none
 | k+1=>some (([]:List (Bool × (List Int) × List Int)),0,1)
def evals_Exact.j10:Nat→Int→Int→(List (Int × Int × Int × Bool × (List Int) × List Int))→Int→Int→Bool→List Int→List Int→(List (Bool × (List Int) × List Int))→(List (Bool × (List Int) × List Int))→(List (Bool × (List Int) × List Int))→Int→Option (List (Bool × (List Int) × List Int) × Int × Int)
 | 0,_,_,_,_,_,_,_,_,_,_,_,_=>none
 | k+1,x10,x13,x31,x32,x33,v12_0,v12_1,v12_2,v30_0,v30_1,v30_2,v30_3=>if x13=0 then ((evals_copied.f v12_0 v12_1 v12_2).bind fun bt6=>(if (v30_0.length+1)*56≤140737488355328 then (evals_Exact.l0 k x31 x32 (wrap64 (x33+1)) (v30_0++ [(bt6.1,(bt6.2.1,bt6.2.2))]) v30_1 v30_2 v30_3) else none)) else (some (([]:List (Bool × (List Int) × List Int)),x10,x13))
end
def evals_Exact.f (k:Nat) (a0:List (Int × Int × Int × Bool × (List Int) × List Int)) (a1:List (Bool × (List Int) × List Int)) (a2:List (Bool × (List Int) × List Int)):Option (List (Bool × (List Int) × List Int) × Int × Int):=(line_Right.f k a0).bind fun t1=>(if t1=true then ((evals_right.f k a1).bind fun t2=>(if t2=true then ((evals_right.f k a2).bind fun t3=>(if t3=true then (evals_Exact.l0 k a0 (a0.length:Int) 0 [] a1 a2 0) else (evals_Exact.j2 k))) else (evals_Exact.j2 k))) else (evals_Exact.j2 k))

/-! ### fbits_exponent: function 85 -/
def fbits_exponent.f (a0:Int):Option (Int):=some (wrap64 (Go.bits .and .u64 (a0/4503599627370496) 2047))

/-! ### fbits_Kind: function 39 -/
def fbits_Kind.f (a0:Int):Option (Int):=(fbits_exponent.f a0).bind fun t945=>(if t945=2047 then (if (Go.bits .and .u64 a0 4503599627370495)=0 then (some 3) else (some 4)) else (if t945=0 then (if (Go.bits .and .u64 a0 4503599627370495)=0 then (some 0) else (some 1)) else (some 2)))

/-! ### fbits_Nan: function 32 -/
def fbits_Nan.f  :Option (Int):=some 9221120237041090560

/-! ### fbits_Clean: function 43 -/
def fbits_Clean.f (a0:Int):Option (Int):=(fbits_Kind.f a0).bind fun t1073=>(if t1073=4 then ((fbits_Nan.f).bind fun t1074=>(some t1074)) else (some a0))

/-! ### fbits_signed: function 86 -/
def fbits_signed.f (a0:Bool) (a1:Int):Option (Int):=if a0=true then (some (Go.bits .or .u64 a1 9223372036854775808)) else (some a1)

/-! ### fbits_Inf: function 34 -/
def fbits_Inf.f (a0:Bool):Option (Int):=(fbits_signed.f a0 9218868437227405312).bind fun t265=>(some t265)

/-! ### fbits_Make: function 25 -/
mutual
def fbits_Make.j0 (k:Nat) (x0:Bool) (x1:Int) (x2:Int) (x19:Bool):Option (Int × Bool):=if x19=true then (some (0,false)) else ((limb_Len.f k x1).bind fun t267=>(if (mx (wrap64 ((wrap64 (x2+t267))-53)) (-1074))>971 then (fbits_Make.j1 k x0 x1 (mx (wrap64 ((wrap64 (x2+t267))-53)) (-1074)) (wrap64 ((mx (wrap64 ((wrap64 (x2+t267))-53)) (-1074))-x2)) true) else (fbits_Make.j1 k x0 x1 (mx (wrap64 ((wrap64 (x2+t267))-53)) (-1074)) (wrap64 ((mx (wrap64 ((wrap64 (x2+t267))-53)) (-1074))-x2)) (decide ((wrap64 ((mx (wrap64 ((wrap64 (x2+t267))-53)) (-1074))-x2))≥64)))))
def fbits_Make.j2 (k:Nat) (x0:Bool) (x1:Int) (x8:Int):Option (Int × Bool):=if x1<4503599627370496 then ((fbits_signed.f x0 x1).bind fun t268=>(some (t268,true))) else ((fbits_signed.f x0 (Go.bits .or .u64 (IntKind.u64.wrap ((IntKind.u64.wrap (wrap64 (x8+1075)))*4503599627370496)) (Go.bits .and .u64 x1 4503599627370495))).bind fun t269=>(some (t269,true)))
def fbits_Make.j1 (k:Nat) (x0:Bool) (x1:Int) (x8:Int) (x9:Int) (x33:Bool):Option (Int × Bool):=if x33=true then (some (0,false)) else (if x9>0 then (if 0≤x9 then (if (shl .u64 (shr .u64 x1 x9) x9)=x1 then (fbits_Make.j2 k x0 (shr .u64 x1 x9) x8) else (some (0,false))) else (none)) else (if 0≤(wrap64 (-x9)) then (fbits_Make.j2 k x0 (shl .u64 x1 (wrap64 (-x9))) x8) else (none)))
end
def fbits_Make.f (k:Nat) (a0:Bool) (a1:Int) (a2:Int):Option (Int × Bool):=if a1=0 then ((fbits_signed.f a0 0).bind fun t266=>(some (t266,true))) else (if a2>2000 then (fbits_Make.j0 k a0 a1 a2 true) else (fbits_Make.j0 k a0 a1 a2 (decide (a2<(-2000)))))

/-! ### fround_made: function 92 -/
def fround_made.f (k:Nat) (a0:Bool) (a1:Int) (a2:Int):Option (Int):=(fbits_Make.f k a0 a1 a2).bind fun bt270=>(if bt270.2=true then (some bt270.1) else ((fbits_Inf.f a0).bind fun t272=>(some t272)))

/-! ### fround_even: function 93 -/
def fround_even.f (a0:Int) (a1:Bool) (a2:Bool):Option (Int):=if a1=true then (if a2=true then (some (IntKind.u64.wrap (a0+1))) else (if (Go.bits .and .u64 a0 1)=1 then (some (IntKind.u64.wrap (a0+1))) else (some a0))) else (some a0)

/-! ### fround_Word: function 36 -/
def fround_Word.f (k:Nat) (a0:Bool) (a1:Int) (a2:Int):Option (Int):=if a1=0 then ((fround_made.f k a0 0 0).bind fun t273=>(some t273)) else ((limb_Len.f k a1).bind fun t274=>(if (mx (wrap64 ((wrap64 (t274+(mn (mx a2 (-1099511627776)) 1099511627776)))-53)) (-1074))>971 then ((fbits_Inf.f a0).bind fun t275=>(some t275)) else (if (wrap64 ((mx (wrap64 ((wrap64 (t274+(mn (mx a2 (-1099511627776)) 1099511627776)))-53)) (-1074))-(mn (mx a2 (-1099511627776)) 1099511627776)))≤0 then (if 0≤(wrap64 (-(wrap64 ((mx (wrap64 ((wrap64 (t274+(mn (mx a2 (-1099511627776)) 1099511627776)))-53)) (-1074))-(mn (mx a2 (-1099511627776)) 1099511627776))))) then ((fround_made.f k a0 (shl .u64 a1 (wrap64 (-(wrap64 ((mx (wrap64 ((wrap64 (t274+(mn (mx a2 (-1099511627776)) 1099511627776)))-53)) (-1074))-(mn (mx a2 (-1099511627776)) 1099511627776)))))) (mx (wrap64 ((wrap64 (t274+(mn (mx a2 (-1099511627776)) 1099511627776)))-53)) (-1074))).bind fun t276=>(some t276)) else (none)) else (if (wrap64 ((mx (wrap64 ((wrap64 (t274+(mn (mx a2 (-1099511627776)) 1099511627776)))-53)) (-1074))-(mn (mx a2 (-1099511627776)) 1099511627776)))>64 then ((fround_made.f k a0 0 0).bind fun t277=>(some t277)) else (if 0≤(wrap64 (64-(wrap64 ((mx (wrap64 ((wrap64 (t274+(mn (mx a2 (-1099511627776)) 1099511627776)))-53)) (-1074))-(mn (mx a2 (-1099511627776)) 1099511627776))))) then (if 0≤(wrap64 ((wrap64 ((mx (wrap64 ((wrap64 (t274+(mn (mx a2 (-1099511627776)) 1099511627776)))-53)) (-1074))-(mn (mx a2 (-1099511627776)) 1099511627776)))-1)) then ((fround_even.f (shr .u64 (a1/2) (wrap64 ((wrap64 ((mx (wrap64 ((wrap64 (t274+(mn (mx a2 (-1099511627776)) 1099511627776)))-53)) (-1074))-(mn (mx a2 (-1099511627776)) 1099511627776)))-1))) (((shl .u64 a1 (wrap64 (64-(wrap64 ((mx (wrap64 ((wrap64 (t274+(mn (mx a2 (-1099511627776)) 1099511627776)))-53)) (-1074))-(mn (mx a2 (-1099511627776)) 1099511627776))))))/9223372036854775808)==1) ((IntKind.u64.wrap ((shl .u64 a1 (wrap64 (64-(wrap64 ((mx (wrap64 ((wrap64 (t274+(mn (mx a2 (-1099511627776)) 1099511627776)))-53)) (-1074))-(mn (mx a2 (-1099511627776)) 1099511627776))))))*2)) !=0)).bind fun t278=>((fround_made.f k a0 t278 (mx (wrap64 ((wrap64 (t274+(mn (mx a2 (-1099511627776)) 1099511627776)))-53)) (-1074))).bind fun t279=>(some t279))) else (none)) else (none))))))

/-! ### nat_Bit: function 117 -/
def nat_Bit.f (l0:List Int) (a1:Int):Option (Bool):=if a1≥0 then (if (wrap64 (Int.tdiv a1 64))<(l0.length:Int) then (if 0≤(wrap64 (Int.tdiv a1 64)) then (if 0≤(Int.tmod a1 64) then (some ((Go.bits .and .u64 (shr .u64 (rd l0 (wrap64 (Int.tdiv a1 64))) (Int.tmod a1 64)) 1)==1)) else (none)) else (none)) else (some false)) else (some false)

/-! ### nat_Even: function 118 -/
def nat_Even.l0:Nat→List Int→Int→Int→Option (Int)
 | 0,_,_,_=>none
 | k+1,x0,x7,x8=>if x8<x7 then ((nat_Bit.f x0 x8).bind fun t377=>(if t377=true then (some x8) else (nat_Even.l0 k x0 x7 (wrap64 (x8+1))))) else (some 0)
def nat_Even.f (k:Nat) (l0:List Int):Option (Int):=(nat_Bits.f k l0).bind fun t376=>(nat_Even.l0 k l0 t376 0)

/-! ### fround_Of: function 63 -/
def fround_Of.j0:Nat→Bool→List Int→Int→Option (Int)
 | 0,_,_,_=>none
 | k+1,x0,x1,x2=>(nat_Bits.f k x1).bind fun t387=>(if t387≤64 then ((nat_Word.f k x1).bind fun bt388=>((fround_Word.f k x0 bt388.1 x2).bind fun t390=>(some t390))) else (if (mx (wrap64 ((wrap64 (t387+x2))-53)) (-1074))>971 then ((fbits_Inf.f x0).bind fun t391=>(some t391)) else ((nat_Shr.f k x1 (wrap64 ((mx (wrap64 ((wrap64 (t387+x2))-53)) (-1074))-x2))).bind fun t392=>((nat_Word.f k t392).bind fun bt395=>((nat_Bit.f x1 (wrap64 ((wrap64 ((mx (wrap64 ((wrap64 (t387+x2))-53)) (-1074))-x2))-1))).bind fun t397=>((nat_Even.f k x1).bind fun t398=>((fround_even.f bt395.1 t397 (decide (t398<(wrap64 ((wrap64 ((mx (wrap64 ((wrap64 (t387+x2))-53)) (-1074))-x2))-1))))).bind fun t399=>((fround_made.f k x0 t399 (mx (wrap64 ((wrap64 (t387+x2))-53)) (-1074))).bind fun t400=>(some t400)))))))))
def fround_Of.f (k:Nat) (a0:Bool) (l1:List Int) (a2:Int) (a3:Bool):Option (Int):=if a3=true then ((nat_Shl.f k l1 1).bind fun t378=>((nat_Of.f k 1).bind fun t381=>((nat_Add.f k t378 t381).bind fun t384=>(fround_Of.j0 k a0 t384 ((mn (mx a2 (-1099511627776)) 1099511627776)-1))))) else (fround_Of.j0 k a0 l1 (mn (mx a2 (-1099511627776)) 1099511627776))

/-! ### rat_Sign: function 132 -/
def rat_Sign.f (k:Nat) (a0_0:Bool) (l0_1:List Int) (l0_2:List Int):Option (Int):=(nat_Bits.f k l0_1).bind fun t724=>(if t724=0 then (some 0) else (if a0_0=true then (some (-1)) else (some 1)))

/-! ### fround_FromRat: function 80 -/
def fround_FromRat.j0 (k:Nat) (x3:Int) (x15:Bool) (x833000:Bool) (x833001:List Int) (x833002:List Int):Option (Int):=if x15=true then (if x833000=true then ((rat_Sign.f k x833000 x833001 x833002).bind fun t836=>((fround_made.f k (t836 !=0) 0 0).bind fun t837=>(some t837))) else ((fround_made.f k false 0 0).bind fun t838=>(some t838))) else (if x3>1200 then ((fbits_Inf.f x833000).bind fun t839=>(some t839)) else ((nat_Shl.f k x833001 (mx (wrap64 (70-x3)) 0)).bind fun t840=>((quot_Div.f k t840 x833002).bind fun bt843=>((fround_Of.f k x833000 bt843.1 (wrap64 (-(mx (wrap64 (70-x3)) 0))) (decide ((bt843.2.1.length:Int)>0))).bind fun t850=>(some t850)))))
def fround_FromRat.f (k:Nat) (a0_0:Bool) (l0_1:List Int) (l0_2:List Int):Option (Int):=(nat_Bits.f k l0_1).bind fun t833=>((nat_Bits.f k l0_2).bind fun t834=>((rat_Sign.f k a0_0 l0_1 l0_2).bind fun t835=>(if t835=0 then (fround_FromRat.j0 k (wrap64 (t833-t834)) true a0_0 l0_1 l0_2) else (fround_FromRat.j0 k (wrap64 (t833-t834)) (decide ((wrap64 (t833-t834))<(-1200))) a0_0 l0_1 l0_2))))

/-! ### fbits_Flip: function 45 -/
def fbits_Flip.f (a0:Int):Option (Int):=(fbits_Kind.f a0).bind fun t1103=>(if t1103=4 then ((fbits_Nan.f).bind fun t1104=>(some t1104)) else (some (Go.bits .xor .u64 a0 9223372036854775808)))

/-! ### fsum_odd: function 146 -/
def fsum_odd.f (a0:Int) (a1:Int):Option (Int):=if a1>63 then (some (mn a0 1)) else (if 0≤a1 then (if (shl .u64 (shr .u64 a0 a1) a1)=a0 then (some (shr .u64 a0 a1)) else (some (Go.bits .or .u64 (shr .u64 a0 a1) 1))) else (none))

/-! ### fsum_finite: function 104 -/
def fsum_finite.j0 (k:Nat) (x1082000:Bool) (x1082001:Int) (x1082002:Int) (x1083000:Bool) (x1083001:Int) (x1083002:Int):Option (Int):=if 0≤(mn (wrap64 (x1082002-x1083002)) 10) then ((fsum_odd.f x1083001 (wrap64 ((wrap64 (x1082002-(mn (wrap64 (x1082002-x1083002)) 10)))-x1083002))).bind fun t1083=>(if (x1082000==x1083000)=true then ((fround_Word.f k x1082000 (IntKind.u64.wrap ((IntKind.u64.wrap (x1082001*2^(mn (wrap64 (x1082002-x1083002)) 10).toNat))+t1083)) (wrap64 (x1082002-(mn (wrap64 (x1082002-x1083002)) 10)))).bind fun t1084=>(some t1084)) else (if (IntKind.u64.wrap (x1082001*2^(mn (wrap64 (x1082002-x1083002)) 10).toNat))>t1083 then ((fround_Word.f k x1082000 (IntKind.u64.wrap ((IntKind.u64.wrap (x1082001*2^(mn (wrap64 (x1082002-x1083002)) 10).toNat))-t1083)) (wrap64 (x1082002-(mn (wrap64 (x1082002-x1083002)) 10)))).bind fun t1085=>(some t1085)) else (if (IntKind.u64.wrap (x1082001*2^(mn (wrap64 (x1082002-x1083002)) 10).toNat))<t1083 then ((fround_Word.f k x1083000 (IntKind.u64.wrap (t1083-(IntKind.u64.wrap (x1082001*2^(mn (wrap64 (x1082002-x1083002)) 10).toNat)))) (wrap64 (x1082002-(mn (wrap64 (x1082002-x1083002)) 10)))).bind fun t1086=>(some t1086)) else (some 0))))) else (none)
def fsum_finite.f (k:Nat) (a0_0:Bool) (a0_1:Int) (a0_2:Int) (a1_0:Bool) (a1_1:Int) (a1_2:Int):Option (Int):=if a0_2<a1_2 then (fsum_finite.j0 k a1_0 a1_1 a1_2 a0_0 a0_1 a0_2) else (fsum_finite.j0 k a0_0 a0_1 a0_2 a1_0 a1_1 a1_2)

/-! ### fbits_Neg: function 41 -/
def fbits_Neg.f (a0:Int):Option (Bool):=some ((Go.bits .and .u64 a0 9223372036854775808) !=0)

/-! ### fbits_Parts: function 24 -/
def fbits_Parts.j0 (k:Nat) (x0:Int) (x6:Int) (x10:Int) (x11:Bool):Option (Bool × Int × Int × Bool):=if x11=true then (some (false,0,0,false)) else (if x10=2 then ((fbits_Neg.f x0).bind fun t947=>((fbits_exponent.f x0).bind fun t948=>(some (t947,Go.bits .or .u64 x6 4503599627370496,wrap64 (t948-1075),true)))) else ((fbits_Neg.f x0).bind fun t949=>(some (t949,x6,(-1074),true))))
def fbits_Parts.f (k:Nat) (a0:Int):Option (Bool × Int × Int × Bool):=(fbits_Kind.f a0).bind fun t946=>(if t946=3 then (fbits_Parts.j0 k a0 (Go.bits .and .u64 a0 4503599627370495) t946 (t946==3)) else (fbits_Parts.j0 k a0 (Go.bits .and .u64 a0 4503599627370495) t946 (t946==4)))

/-! ### fsum_of: function 105 -/
def fsum_of.f (k:Nat) (a0:Int):Option (Bool × Int × Int):=(fbits_Parts.f k a0).bind fun bt1088=>(some (bt1088.1,bt1088.2.1,bt1088.2.2.1))

/-! ### fsum_Add: function 55 -/
mutual
def fsum_Add.j0:Nat→Int→Int→Int→Int→Bool→Option (Int)
 | 0,_,_,_,_,_=>none
 | k+1,x0,x1,x5,x6,x11=>if x11=true then ((fbits_Nan.f).bind fun t1094=>(some t1094)) else (if x5=3 then (if x6=3 then (fsum_Add.j1 k x0 x1 x5 x6 (x0 !=x1)) else (fsum_Add.j1 k x0 x1 x5 x6 false)) else (fsum_Add.j1 k x0 x1 x5 x6 false))
def fsum_Add.j1:Nat→Int→Int→Int→Int→Bool→Option (Int)
 | 0,_,_,_,_,_=>none
 | k+1,x0,x1,x5,x6,x19=>if x19=true then ((fbits_Nan.f).bind fun t1095=>(some t1095)) else (if x5=3 then (some x0) else (if x6=3 then (some x1) else ((fsum_of.f k x0).bind fun bt1096=>((fsum_of.f k x1).bind fun bt1099=>((fsum_finite.f k bt1096.1 bt1096.2.1 bt1096.2.2 bt1099.1 bt1099.2.1 bt1099.2.2).bind fun t1102=>(some t1102))))))
end
def fsum_Add.f (k:Nat) (a0:Int) (a1:Int):Option (Int):=(fbits_Kind.f a0).bind fun t1092=>((fbits_Kind.f a1).bind fun t1093=>(if t1092=4 then (fsum_Add.j0 k a0 a1 t1092 t1093 true) else (fsum_Add.j0 k a0 a1 t1092 t1093 (t1093==4))))

/-! ### fsum_Sub: function 57 -/
def fsum_Sub.f (k:Nat) (a0:Int) (a1:Int):Option (Int):=(fbits_Flip.f a1).bind fun t1105=>((fsum_Add.f k a0 t1105).bind fun t1106=>(some t1106))

/-! ### fprod_Mul: function 66 -/
mutual
def fprod_Mul.j0:Nat→Int→Int→Int→Int→Bool→Bool→Option (Int)
 | 0,_,_,_,_,_,_=>none
 | k+1,x0,x1,x5,x6,x7,x29=>if x29=true then ((fbits_Nan.f).bind fun t1111=>(some t1111)) else (if x5=3 then (fprod_Mul.j1 k x0 x1 x5 x6 x7 true) else (fprod_Mul.j1 k x0 x1 x5 x6 x7 (x6==3)))
def fprod_Mul.j1:Nat→Int→Int→Int→Int→Bool→Bool→Option (Int)
 | 0,_,_,_,_,_,_=>none
 | k+1,x0,x1,x5,x6,x7,x37=>if x37=true then (if x5=0 then (fprod_Mul.j2 k x7 true) else (fprod_Mul.j2 k x7 (x6==0))) else ((fbits_Parts.f k x0).bind fun bt1114=>((fbits_Parts.f k x1).bind fun bt1118=>((limb_Mul.f bt1114.2.1 bt1118.2.1).bind fun bt1122=>((limb_Len.f k bt1122.1).bind fun t1124=>(if t1124=0 then ((fround_Word.f k x7 bt1122.2 (wrap64 (bt1114.2.2.1+bt1118.2.2.1))).bind fun t1125=>(some t1125)) else (if 0≤(wrap64 (64-t1124)) then (if 0≤t1124 then (if (shl .u64 bt1122.2 (wrap64 (64-t1124)))=0 then ((fround_Word.f k x7 (Go.bits .or .u64 (shl .u64 bt1122.1 (wrap64 (64-t1124))) (shr .u64 bt1122.2 t1124)) (wrap64 ((wrap64 (bt1114.2.2.1+bt1118.2.2.1))+t1124))).bind fun t1126=>(some t1126)) else ((fround_Word.f k x7 (Go.bits .or .u64 (Go.bits .or .u64 (shl .u64 bt1122.1 (wrap64 (64-t1124))) (shr .u64 bt1122.2 t1124)) 1) (wrap64 ((wrap64 (bt1114.2.2.1+bt1118.2.2.1))+t1124))).bind fun t1127=>(some t1127))) else (none)) else (none)))))))
def fprod_Mul.j2:Nat→Bool→Bool→Option (Int)
 | 0,_,_=>none
 | k+1,x7,x49=>if x49=true then ((fbits_Nan.f).bind fun t1112=>(some t1112)) else ((fbits_Inf.f x7).bind fun t1113=>(some t1113))
end
def fprod_Mul.f (k:Nat) (a0:Int) (a1:Int):Option (Int):=(fbits_Kind.f a0).bind fun t1107=>((fbits_Kind.f a1).bind fun t1108=>((fbits_Neg.f a0).bind fun t1109=>((fbits_Neg.f a1).bind fun t1110=>(if t1107=4 then (fprod_Mul.j0 k a0 a1 t1107 t1108 (!(t1109==t1110)) true) else (fprod_Mul.j0 k a0 a1 t1107 t1108 (!(t1109==t1110)) (t1108==4))))))

/-! ### fprod_signed: function 121 -/
def fprod_signed.f (k:Nat) (a0:Bool):Option (Int):=(fbits_Make.f k a0 0 0).bind fun bt1128=>(some bt1128.1)

/-! ### fprod_Div: function 68 -/
mutual
def fprod_Div.j0:Nat→Int→Int→Int→Int→Bool→Bool→Option (Int)
 | 0,_,_,_,_,_,_=>none
 | k+1,x0,x1,x5,x6,x7,x30=>if x30=true then ((fbits_Nan.f).bind fun t1134=>(some t1134)) else (if x5=3 then (fprod_Div.j1 k x0 x1 x5 x6 x7 true) else (fprod_Div.j1 k x0 x1 x5 x6 x7 (x6==0)))
def fprod_Div.j1:Nat→Int→Int→Int→Int→Bool→Bool→Option (Int)
 | 0,_,_,_,_,_,_=>none
 | k+1,x0,x1,x5,x6,x7,x51=>if x51=true then ((fbits_Inf.f x7).bind fun t1135=>(some t1135)) else (if x5=0 then ((fprod_signed.f k x7).bind fun t1136=>(some t1136)) else (if x6=3 then ((fprod_signed.f k x7).bind fun t1137=>(some t1137)) else ((fbits_Parts.f k x0).bind fun bt1138=>((fbits_Parts.f k x1).bind fun bt1142=>((limb_Len.f k bt1138.2.1).bind fun t1146=>((limb_Len.f k bt1142.2.1).bind fun t1147=>(if 0≤(wrap64 (63-t1146)) then (if 0≤(wrap64 (64-t1147)) then ((limb_Div.f k (shl .u64 bt1138.2.1 (wrap64 (63-t1146))) 0 (shl .u64 bt1142.2.1 (wrap64 (64-t1147)))).bind fun bt1148=>(if bt1148.2.1=0 then ((fround_Word.f k x7 bt1148.1 (wrap64 ((wrap64 ((wrap64 ((wrap64 (bt1138.2.2.1-(wrap64 (63-t1146))))-bt1142.2.2.1))+(wrap64 (64-t1147))))-64))).bind fun t1151=>(some t1151)) else ((fround_Word.f k x7 (Go.bits .or .u64 bt1148.1 1) (wrap64 ((wrap64 ((wrap64 ((wrap64 (bt1138.2.2.1-(wrap64 (63-t1146))))-bt1142.2.2.1))+(wrap64 (64-t1147))))-64))).bind fun t1152=>(some t1152)))) else (none)) else (none))))))))
end
def fprod_Div.f (k:Nat) (a0:Int) (a1:Int):Option (Int):=(fbits_Kind.f a0).bind fun t1130=>((fbits_Kind.f a1).bind fun t1131=>((fbits_Neg.f a0).bind fun t1132=>((fbits_Neg.f a1).bind fun t1133=>(if t1130=4 then (fprod_Div.j0 k a0 a1 t1130 t1131 (!(t1132==t1133)) true) else (if t1131=4 then (fprod_Div.j0 k a0 a1 t1130 t1131 (!(t1132==t1133)) true) else (if t1130=t1131 then (if t1130=3 then (fprod_Div.j0 k a0 a1 t1130 t1131 (!(t1132==t1133)) true) else (fprod_Div.j0 k a0 a1 t1130 t1131 (!(t1132==t1133)) (t1130==0))) else (fprod_Div.j0 k a0 a1 t1130 t1131 (!(t1132==t1133)) false)))))))

/-! ### fprod_root: function 219 -/
def fprod_root.l0:Nat→Int→Int→Int→Option (Int × Bool)
 | 0,_,_,_=>none
 | k+1,x0,x4,x5=>if x5>0 then ((limb_Mul.f (Go.bits .or .u64 x4 x5) (Go.bits .or .u64 x4 x5)).bind fun bt1492=>(if bt1492.1<x0 then (fprod_root.l0 k x0 (Go.bits .or .u64 x4 x5) (x5/2)) else (if bt1492.1=x0 then (if bt1492.2=0 then (fprod_root.l0 k x0 (Go.bits .or .u64 x4 x5) (x5/2)) else (fprod_root.l0 k x0 x4 (x5/2))) else (fprod_root.l0 k x0 x4 (x5/2))))) else ((limb_Mul.f x4 x4).bind fun bt1494=>(if bt1494.1=x0 then (some (x4,(bt1494.2==0))) else (some (x4,false))))
def fprod_root.f (k:Nat) (a0:Int):Option (Int × Bool):=fprod_root.l0 k a0 0 9223372036854775808

/-! ### fprod_Sqrt: function 149 -/
def fprod_Sqrt.j0:Nat→Int→Int→Int→Option (Int)
 | 0,_,_,_=>none
 | k+1,x4,x5,x7=>if 0≤(wrap64 (x7-64)) then ((fprod_root.f k (shl .u64 x4 (wrap64 (x7-64)))).bind fun bt1507=>(if bt1507.2=true then ((fround_Word.f k false bt1507.1 (wrap64 (Int.tdiv (wrap64 (x5-x7)) 2))).bind fun t1509=>(some t1509)) else ((fround_Word.f k false (Go.bits .or .u64 bt1507.1 1) (wrap64 (Int.tdiv (wrap64 (x5-x7)) 2))).bind fun t1510=>(some t1510)))) else (none)
def fprod_Sqrt.f (k:Nat) (a0:Int):Option (Int):=(fbits_Kind.f a0).bind fun t1496=>(if t1496=4 then ((fbits_Nan.f).bind fun t1497=>(some t1497)) else (if t1496=3 then ((fbits_Neg.f a0).bind fun t1498=>(if t1498=true then ((fbits_Nan.f).bind fun t1499=>(some t1499)) else (some a0))) else (if t1496=0 then (some a0) else ((fbits_Neg.f a0).bind fun t1500=>(if t1500=true then ((fbits_Nan.f).bind fun t1501=>(some t1501)) else ((fbits_Parts.f k a0).bind fun bt1502=>((limb_Len.f k bt1502.2.1).bind fun t1506=>(if (Go.bits .and .i64 (wrap64 (bt1502.2.2.1-(wrap64 (126-t1506)))) 1)=0 then (fprod_Sqrt.j0 k bt1502.2.1 bt1502.2.2.1 (wrap64 (126-t1506))) else (fprod_Sqrt.j0 k bt1502.2.1 bt1502.2.2.1 (wrap64 ((wrap64 (126-t1506))-1)))))))))))

/-! ### fcmp_known: function 98 -/
def fcmp_known.f (a0:Int) (a1:Int):Option (Bool):=(fbits_Kind.f a0).bind fun t1062=>(if t1062=4 then (some false) else ((fbits_Kind.f a1).bind fun t1063=>(some (t1063 !=4))))

/-! ### fcmp_key: function 99 -/
def fcmp_key.f (a0:Int):Option (Int):=(fbits_Neg.f a0).bind fun t1064=>(if t1064=true then (some (wrap64 (-(wrap64 ((IntKind.u64.wrap (a0*2))/2))))) else (some (wrap64 ((IntKind.u64.wrap (a0*2))/2))))

/-! ### fcmp_Less: function 48 -/
def fcmp_Less.f (a0:Int) (a1:Int):Option (Bool):=(fcmp_known.f a0 a1).bind fun t1065=>(if t1065=true then ((fcmp_key.f a0).bind fun t1066=>((fcmp_key.f a1).bind fun t1067=>(some (decide (t1066<t1067))))) else (some false))

/-! ### fcmp_Near: function 51 -/
mutual
def fcmp_Near.j0:Nat→Bool→Int→Int→Bool→Option (Int × Bool)
 | 0,_,_,_,_=>none
 | k+1,x4,x5,x6,x25=>if x25=true then (some (0,false)) else (if x6≥0 then (if 0≤x6 then (if x4=true then (some (wrap64 (-(wrap64 (shl .u64 x5 x6))),true)) else (some (wrap64 (shl .u64 x5 x6),true))) else (none)) else (if x6>(-64) then (if 0≤(wrap64 (-x6)) then (if 0≤(wrap64 (64+x6)) then (if (shl .u64 x5 (wrap64 (64+x6)))>9223372036854775808 then (fcmp_Near.j1 k x4 (wrap64 (shr .u64 x5 (wrap64 (-x6)))) true) else (if (shl .u64 x5 (wrap64 (64+x6)))=9223372036854775808 then (fcmp_Near.j1 k x4 (wrap64 (shr .u64 x5 (wrap64 (-x6)))) ((Go.bits .and .i64 (wrap64 (shr .u64 x5 (wrap64 (-x6)))) 1)==1)) else (fcmp_Near.j1 k x4 (wrap64 (shr .u64 x5 (wrap64 (-x6)))) false))) else (none)) else (none)) else (if x4=true then (some (-0,true)) else (some (0,true)))))
def fcmp_Near.j1:Nat→Bool→Int→Bool→Option (Int × Bool)
 | 0,_,_,_=>none
 | k+1,x4,x8,x55=>if x55=true then (if x4=true then (some (wrap64 (-(wrap64 (x8+1))),true)) else (some (wrap64 (x8+1),true))) else (if x4=true then (some (wrap64 (-x8),true)) else (some (x8,true)))
end
def fcmp_Near.f (k:Nat) (a0:Int):Option (Int × Bool):=(fbits_Parts.f k a0).bind fun bt1068=>(if bt1068.2.2.2=true then ((limb_Len.f k bt1068.2.1).bind fun t1072=>(fcmp_Near.j0 k bt1068.1 bt1068.2.1 bt1068.2.2.1 (decide ((wrap64 (t1072+bt1068.2.2.1))>62)))) else (fcmp_Near.j0 k bt1068.1 bt1068.2.1 bt1068.2.2.1 true))

/-! ### fcmp_Scale: function 53 -/
def fcmp_Scale.f (k:Nat) (a0:Int) (a1:Int):Option (Int):=(fbits_Parts.f k a0).bind fun bt1075=>(if bt1075.2.2.2=true then ((fround_Word.f k bt1075.1 bt1075.2.1 (wrap64 (bt1075.2.2.1+(mn (mx a1 (-5000)) 5000)))).bind fun t1079=>(some t1079)) else ((fbits_Clean.f a0).bind fun t1080=>(some t1080)))

/-! ### fround_FromInt: function 64 -/
def fround_FromInt.f (k:Nat) (a0:Int):Option (Int):=if a0<0 then ((fround_Word.f k true (IntKind.u64.wrap (-(IntKind.u64.wrap (a0)))) 0).bind fun t280=>(some t280)) else ((fround_Word.f k false (IntKind.u64.wrap (a0)) 0).bind fun t281=>(some t281))

/-! ### kernel_part: function 126 -/
def kernel_part.f (k:Nat) (a0:Int):Option (Int):=(fround_FromInt.f k a0).bind fun t1153=>((fprod_Div.f k 4607182418800017408 t1153).bind fun t1154=>(some t1154))

/-! ### kernel_Exp: function by hand -/
def kernel_Exp.l1:Nat→Int→Int→List Int→Int→Int→Option (Int)
 | 0,_,_,_,_,_=>none
 | k+1,e,r,fs,p,i=>if i≥0 then ((fprod_Mul.f k p r).bind fun t=>(if 0≤i then (if i<14 then (if i<(fs.length:Int) then ((kernel_part.f k (rd fs i)).bind fun u=>((fsum_Add.f k t u).bind fun v=>(kernel_Exp.l1 k e r fs v (wrap64 (i-1))))) else none) else none) else none)) else ((fcmp_Scale.f k p e).bind fun s=>(some s))
def kernel_Exp.l0:Nat→Int→Int→List Int→Int→Option (Int)
 | 0,_,_,_,_=>none
 | k+1,e,r,fs,i=>if i<13 then (if 0≤(wrap64 (i+1)) then (if (wrap64 (i+1))<14 then (if (wrap64 (i+1))<(fs.length:Int) then (if 0≤i then (if i<14 then (if i<(fs.length:Int) then (kernel_Exp.l0 k e r (fs.set ((wrap64 (i+1)):Int).toNat (wrap64 ((rd fs i)*(wrap64 (i+1))))) (wrap64 (i+1))) else none) else none) else none) else none) else none) else none) else (if (13:Int)<(fs.length:Int) then ((kernel_part.f k (rd fs 13)).bind fun p=>(kernel_Exp.l1 k e r fs p 12)) else none)
def kernel_Exp.f (k:Nat) (a0:Int):Option (Int):=(fbits_Kind.f a0).bind fun t0=>(if t0=4 then ((fbits_Nan.f).bind fun t=>(some t)) else ((fcmp_Less.f 4649456441864749056 a0).bind fun t1=>(if t1=true then ((fbits_Inf.f false).bind fun t=>(some t)) else ((fcmp_Less.f a0 13873145138068324352).bind fun t2=>(if t2=true then (some 0) else ((fprod_Mul.f k a0 4609176140021203710).bind fun t3=>((fcmp_Near.f k t3).bind fun bt4=>((fround_FromInt.f k bt4.1).bind fun t5=>((fprod_Mul.f k t5 4604418534311723008).bind fun t6=>((fsum_Sub.f k a0 t6).bind fun t7=>((fprod_Mul.f k t5 4461442080421002358).bind fun t8=>((fsum_Sub.f k t7 t8).bind fun t9=>(kernel_Exp.l0 k bt4.1 t9 [1,0,0,0,0,0,0,0,0,0,0,0,0,0] 0)))))))))))))

/-! ### kernel_split: function 129 -/
def kernel_split.f (k:Nat) (a0:Int):Option (Int × Int):=(fbits_Parts.f k a0).bind fun bt1321=>((limb_Len.f k bt1321.2.1).bind fun t1325=>((fbits_Make.f k false bt1321.2.1 (wrap64 (1-t1325))).bind fun bt1326=>((fcmp_Less.f 4609047870845172685 bt1326.1).bind fun t1328=>(if t1328=true then ((fbits_Make.f k false bt1321.2.1 (wrap64 (-t1325))).bind fun bt1329=>(some (bt1329.1,wrap64 (bt1321.2.2.1+t1325)))) else (some (bt1326.1,wrap64 ((wrap64 (bt1321.2.2.1+t1325))-1)))))))

/-! ### kernel_Log: function 75 -/
mutual
def kernel_Log.j0:Nat→Int→Int→Bool→Option (Int)
 | 0,_,_,_=>none
 | k+1,x0,x3,x20=>if x20=true then ((fbits_Nan.f).bind fun t1334=>(some t1334)) else (if x3=3 then (some x0) else ((kernel_split.f k x0).bind fun bt1335=>((fsum_Sub.f k bt1335.1 4607182418800017408).bind fun t1337=>((fsum_Add.f k 4611686018427387904 t1337).bind fun t1338=>((fprod_Div.f k t1337 t1338).bind fun t1339=>((fprod_Mul.f k t1339 t1339).bind fun t1340=>((kernel_part.f k 21).bind fun t1341=>(kernel_Log.l0 k bt1335.2 t1339 t1340 t1341 9))))))))
def kernel_Log.l0:Nat→Int→Int→Int→Int→Int→Option (Int)
 | 0,_,_,_,_,_=>none
 | k+1,x5,x7,x8,x9,x10=>if x10>0 then ((fprod_Mul.f k x9 x8).bind fun t1342=>((kernel_part.f k (wrap64 ((wrap64 (2*x10))+1))).bind fun t1343=>((fsum_Add.f k t1342 t1343).bind fun t1344=>(kernel_Log.l0 k x5 x7 x8 t1344 (wrap64 (x10-1)))))) else ((fsum_Add.f k x7 x7).bind fun t1345=>((fprod_Mul.f k x9 x8).bind fun t1346=>((fprod_Mul.f k t1345 t1346).bind fun t1347=>((fsum_Add.f k t1345 t1347).bind fun t1348=>(if x5=0 then (some t1348) else ((fround_FromInt.f k x5).bind fun t1349=>((fprod_Mul.f k t1349 4604418534311723008).bind fun t1350=>((fprod_Mul.f k t1349 4461442080421002358).bind fun t1351=>((fsum_Add.f k t1348 t1351).bind fun t1352=>((fsum_Add.f k t1350 t1352).bind fun t1353=>(some t1353)))))))))))
end
def kernel_Log.f (k:Nat) (a0:Int):Option (Int):=(fbits_Kind.f a0).bind fun t1331=>(if t1331=0 then ((fbits_Inf.f true).bind fun t1332=>(some t1332)) else (if t1331=4 then (kernel_Log.j0 k a0 t1331 true) else ((fbits_Neg.f a0).bind fun t1333=>(kernel_Log.j0 k a0 t1331 t1333))))

/-! ### evals_double: function by hand -/
def evals_double.f (k:Nat) (a0_0:Int) (a0_1:Int) (a0_2:Int) (a0_3:Bool) (a0_4:List Int) (a0_5:List Int) (a1:List Int) (a2:List Int):Option (Int):=if a0_0=1 then (if 0≤a0_1 then (if a0_1<(a2.length:Int) then ((fbits_Clean.f (rd a2 a0_1)).bind fun t1=>(some t1)) else none) else none) else (if a0_0=2 then ((fround_FromRat.f k a0_3 a0_4 a0_5).bind fun t2=>(some t2)) else (if a0_0=3 then (if 0≤a0_1 then (if a0_1<(a1.length:Int) then ((fbits_Flip.f (rd a1 a0_1)).bind fun t3=>(some t3)) else none) else none) else (if a0_0=4 then (if 0≤a0_1 then (if a0_1<(a1.length:Int) then (if 0≤a0_2 then (if a0_2<(a1.length:Int) then ((fsum_Add.f k (rd a1 a0_1) (rd a1 a0_2)).bind fun t4=>(some t4)) else none) else none) else none) else none) else (if a0_0=5 then (if 0≤a0_1 then (if a0_1<(a1.length:Int) then (if 0≤a0_2 then (if a0_2<(a1.length:Int) then ((fsum_Sub.f k (rd a1 a0_1) (rd a1 a0_2)).bind fun t5=>(some t5)) else none) else none) else none) else none) else (if a0_0=6 then (if 0≤a0_1 then (if a0_1<(a1.length:Int) then (if 0≤a0_2 then (if a0_2<(a1.length:Int) then ((fprod_Mul.f k (rd a1 a0_1) (rd a1 a0_2)).bind fun t6=>(some t6)) else none) else none) else none) else none) else (if a0_0=7 then (if 0≤a0_1 then (if a0_1<(a1.length:Int) then (if 0≤a0_2 then (if a0_2<(a1.length:Int) then ((fprod_Div.f k (rd a1 a0_1) (rd a1 a0_2)).bind fun t7=>(some t7)) else none) else none) else none) else none) else (if a0_0=8 then (if 0≤a0_1 then (if a0_1<(a1.length:Int) then ((fprod_Sqrt.f k (rd a1 a0_1)).bind fun t8=>(some t8)) else none) else none) else (if a0_0=9 then (if 0≤a0_1 then (if a0_1<(a1.length:Int) then ((kernel_Exp.f k (rd a1 a0_1)).bind fun t9=>(some t9)) else none) else none) else (if 0≤a0_1 then (if a0_1<(a1.length:Int) then ((kernel_Log.f k (rd a1 a0_1)).bind fun t10=>(some t10)) else none) else none)))))))))

/-! ### evals_Float: function by hand -/
mutual
def evals_Float.l0:Nat→List Int→List Int→(List (Int × Int × Int × Bool × (List Int) × List Int))→Int→Int→Option (List Int × Int × Int)
 | 0,_,_,_,_,_=>none
 | k+1,x1,x7,x13,x14,x15=>if x15<x14 then (if 0≤x15 then (if x15<(x13.length:Int) then (if (rd_iiibLL x13 x15).1=1 then (if (rd_iiibLL x13 x15).2.1≥(x1.length:Int) then (some (([]:List Int),x15,11)) else (evals_Float.j9 k x1 x7 x13 x14 x15 (rd_iiibLL x13 x15).1 (rd_iiibLL x13 x15).2.1 (rd_iiibLL x13 x15).2.2.1 (rd_iiibLL x13 x15).2.2.2.1 (rd_iiibLL x13 x15).2.2.2.2.1 (rd_iiibLL x13 x15).2.2.2.2.2)) else (evals_Float.j9 k x1 x7 x13 x14 x15 (rd_iiibLL x13 x15).1 (rd_iiibLL x13 x15).2.1 (rd_iiibLL x13 x15).2.2.1 (rd_iiibLL x13 x15).2.2.2.1 (rd_iiibLL x13 x15).2.2.2.2.1 (rd_iiibLL x13 x15).2.2.2.2.2)) else none) else none) else (some (x7,0,0))
def evals_Float.j9:Nat→List Int→List Int→(List (Int × Int × Int × Bool × (List Int) × List Int))→Int→Int→Int→Int→Int→Bool→List Int→List Int→Option (List Int × Int × Int)
 | 0,_,_,_,_,_,_,_,_,_,_,_=>none
 | k+1,x1,x7,x13,x14,x15,v9_0,v9_1,v9_2,v9_3,v9_4,v9_5=>(evals_double.f k v9_0 v9_1 v9_2 v9_3 v9_4 v9_5 x7 x1).bind fun t2=>(if (x7.length+1)*8≤140737488355328 then (evals_Float.l0 k x1 (x7++ [t2]) x13 x14 (wrap64 (x15+1))) else none)
end
def evals_Float.f (k:Nat) (a0:List (Int × Int × Int × Bool × (List Int) × List Int)) (a1:List Int):Option (List Int × Int × Int):=(line_Right.f k a0).bind fun t1=>(if t1=true then (evals_Float.l0 k a1 [] a0 (a0.length:Int) 0) else (some (([]:List Int),0,1)))

/-! ### gradineplain_Long: function 130 -/
def gradineplain_Long.f (a0_0:Bool) (l0_1:List Int) (l0_2:List Int) (a1:Int):Option (Bool):=if (l0_1.length:Int)>a1 then (some true) else (some (decide ((l0_2.length:Int)>a1)))

/-! ### gr02_at: function 144 -/
def gr02_at.f (l0:List Int) (a1:Int):Option (Int):=if a1<0 then (some 0) else (if a1≥(l0.length:Int) then (some 0) else (if 0≤a1 then (if a1<(l0.length:Int) then (some (rd l0 a1)) else (none)) else (none)))

/-! ### gr02_Cmp: function 103 -/
def gr02_Cmp.l0:Nat→List Int→List Int→Int→Option (Int)
 | 0,_,_,_=>none
 | k+1,x0,x1,x6=>if x6≥0 then ((gr02_at.f x0 x6).bind fun t187=>((gr02_at.f x1 x6).bind fun t188=>(if t187<t188 then (some (-1)) else (if t187>t188 then (some 1) else (gr02_Cmp.l0 k x0 x1 (wrap64 (x6-1))))))) else (some 0)
def gr02_Cmp.f (k:Nat) (l0:List Int) (l1:List Int):Option (Int):=gr02_Cmp.l0 k l0 l1 (wrap64 ((mx (l0.length:Int) (l1.length:Int))-1))

/-! ### gr02_Size: function 134 -/
def gr02_Size.l0:Nat→List Int→Int→Option (Int)
 | 0,_,_=>none
 | k+1,x0,x3=>if x3>0 then (if 0≤(wrap64 (x3-1)) then (if (wrap64 (x3-1))<(x0.length:Int) then (if (rd x0 (wrap64 (x3-1)))=0 then (gr02_Size.l0 k x0 (wrap64 (x3-1))) else (some x3)) else (none)) else (none)) else (some x3)
def gr02_Size.f (k:Nat) (l0:List Int):Option (Int):=gr02_Size.l0 k l0 (l0.length:Int)

/-! ### gr02_Trim: function 140 -/
def gr02_Trim.l0:Nat→List Int→List Int→Int→Int→Option (List Int)
 | 0,_,_,_,_=>none
 | k+1,x0,x3,x6,x7=>if x7<x6 then (if 0≤x7 then (if x7<(x0.length:Int) then (if x3.length<17592186044416 then (gr02_Trim.l0 k x0 (x3++ [rd x0 x7]) x6 (wrap64 (x7+1))) else (none)) else (none)) else (none)) else (some x3)
def gr02_Trim.f (k:Nat) (l0:List Int):Option (List Int):=(gr02_Size.f k l0).bind fun t106=>(gr02_Trim.l0 k l0 ([]:List Int) t106 0)

/-! ### gr02_Shl: function 90 -/
mutual
def gr02_Shl.l0:Nat→List Int→Int→List Int→Int→Int→Option (List Int)
 | 0,_,_,_,_,_=>none
 | k+1,x0,x1,x5,x13,x14=>if x14<x13 then (if x5.length<17592186044416 then (gr02_Shl.l0 k x0 x1 (x5++ [0]) x13 (wrap64 (x14+1))) else (none)) else (gr02_Shl.l1 k x0 x1 x5 (x0.length:Int) 0)
def gr02_Shl.l1:Nat→List Int→Int→List Int→Int→Int→Option (List Int)
 | 0,_,_,_,_,_=>none
 | k+1,x0,x1,x5,x21,x22=>if x22<x21 then (if 0≤x22 then (if x22<(x0.length:Int) then (if x5.length<17592186044416 then (gr02_Shl.l1 k x0 x1 (x5++ [rd x0 x22]) x21 (wrap64 (x22+1))) else (none)) else (none)) else (none)) else (if (x1%64)=0 then ((gr02_Trim.f k x5).bind fun t118=>(some t118)) else (if x5.length<17592186044416 then ((some (x5++ [0]:List Int)).bind fun y121=>(gr02_Shl.l2 k y121 (x1%64) (wrap64 ((y121.length:Int)-1)))) else (none)))
def gr02_Shl.l2:Nat→List Int→Int→Int→Option (List Int)
 | 0,_,_,_=>none
 | k+1,x5,x7,x8=>if x8>0 then (if 0≤x8 then (if x8<(x5.length:Int) then (if 0≤(wrap64 (x8-1)) then (if (wrap64 (x8-1))<(x5.length:Int) then (gr02_Shl.l2 k (x5.set (x8:Int).toNat (Go.bits .or .u64 (IntKind.u64.wrap ((rd x5 x8)*2^x7.toNat)) ((rd x5 (wrap64 (x8-1)))/2^(64-x7).toNat))) x7 (wrap64 (x8-1))) else (none)) else (none)) else (none)) else (none)) else (if 0<(x5.length:Int) then ((gr02_Trim.f k (x5.set (0:Int).toNat (IntKind.u64.wrap ((rd x5 0)*2^x7.toNat)))).bind fun t129=>(some t129)) else (none))
end
def gr02_Shl.f (k:Nat) (l0:List Int) (a1:Int):Option (List Int):=gr02_Shl.l0 k l0 (mn (mx a1 0) 65536) ([]:List Int) ((mn (mx a1 0) 65536)/64) 0

/-! ### gr02_Shr: function 100 -/
mutual
def gr02_Shr.l0:Nat→List Int→Int→List Int→Int→Option (List Int)
 | 0,_,_,_,_=>none
 | k+1,x0,x1,x5,x6=>if x6<(x0.length:Int) then (if 0≤x6 then (if x5.length<17592186044416 then (gr02_Shr.l0 k x0 x1 (x5++ [rd x0 x6]) (wrap64 (x6+1))) else (none)) else (none)) else (if (x1%64)=0 then ((gr02_Trim.f k x5).bind fun t136=>(some t136)) else (gr02_Shr.l1 k x5 (x1%64) (x5.length:Int) 0))
def gr02_Shr.l1:Nat→List Int→Int→Int→Int→Option (List Int)
 | 0,_,_,_,_=>none
 | k+1,x5,x7,x35,x36=>if x36<x35 then (if 0≤x36 then (if x36<(x5.length:Int) then ((some (x5.set (x36:Int).toNat ((rd x5 x36)/2^x7.toNat):List Int)).bind fun y140=>(if (wrap64 (x36+1))<(x5.length:Int) then (if 0≤(wrap64 (x36+1)) then (gr02_Shr.l1 k (y140.set (x36:Int).toNat (Go.bits .or .u64 (rd y140 x36) (IntKind.u64.wrap ((rd y140 (wrap64 (x36+1)))*2^(64-x7).toNat)))) x7 x35 (wrap64 (x36+1))) else (none)) else (gr02_Shr.l1 k y140 x7 x35 (wrap64 (x36+1))))) else (none)) else (none)) else ((gr02_Trim.f k x5).bind fun t144=>(some t144))
end
def gr02_Shr.f (k:Nat) (l0:List Int) (a1:Int):Option (List Int):=gr02_Shr.l0 k l0 (mx a1 0) ([]:List Int) (wrap64 ((mx a1 0)/64))

/-! ### gr02_Halves: function 143 -/
def gr02_Halves.l0:Nat→List Int→List Int→Int→Int→Option (List Int)
 | 0,_,_,_,_=>none
 | k+1,x0,x3,x6,x7=>if x7<x6 then (if 0≤x7 then (if x7<(x0.length:Int) then (if x3.length<17592186044416 then ((some (x3++ [Go.bits .and .u64 (rd x0 x7) 4294967295]:List Int)).bind fun y151=>(if y151.length<17592186044416 then (gr02_Halves.l0 k x0 (y151++ [(rd x0 x7)/4294967296]) x6 (wrap64 (x7+1))) else (none))) else (none)) else (none)) else (none)) else ((gr02_Trim.f k x3).bind fun t158=>(some t158))
def gr02_Halves.f (k:Nat) (l0:List Int):Option (List Int):=gr02_Halves.l0 k l0 ([]:List Int) (l0.length:Int) 0

/-! ### gr02_Whole: function 145 -/
def gr02_Whole.l0:Nat→List Int→List Int→Int→Option (List Int)
 | 0,_,_,_=>none
 | k+1,x0,x3,x4=>if x4<(x0.length:Int) then (if 0≤x4 then (if (wrap64 (x4+1))<(x0.length:Int) then (if 0≤(wrap64 (x4+1)) then (if x3.length<17592186044416 then (gr02_Whole.l0 k x0 (x3++ [Go.bits .or .u64 (rd x0 x4) (IntKind.u64.wrap ((rd x0 (wrap64 (x4+1)))*4294967296))]) (wrap64 (x4+2))) else (none)) else (none)) else (if x3.length<17592186044416 then (gr02_Whole.l0 k x0 (x3++ [rd x0 x4]) (wrap64 (x4+2))) else (none))) else (none)) else ((gr02_Trim.f k x3).bind fun t170=>(some t170))
def gr02_Whole.f (k:Nat) (l0:List Int):Option (List Int):=gr02_Whole.l0 k l0 ([]:List Int) 0

/-! ### gr02_Sub: function 102 -/
def gr02_Sub.l0:Nat→List Int→List Int→List Int→Int→Int→Int→Option (List Int)
 | 0,_,_,_,_,_,_=>none
 | k+1,x5,x6,x7,x8,x16,x17=>if x17<x16 then (if 0≤x17 then (if x17<(x5.length:Int) then ((gr02_at.f x6 x17).bind fun t180=>(if x7.length<17592186044416 then (gr02_Sub.l0 k x5 x6 (x7++ [Go.bits .and .u64 (IntKind.u64.wrap ((IntKind.u64.wrap ((IntKind.u64.wrap (4294967296+(rd x5 x17)))-t180))-x8)) 4294967295]) (IntKind.u64.wrap (1-((IntKind.u64.wrap ((IntKind.u64.wrap ((IntKind.u64.wrap (4294967296+(rd x5 x17)))-t180))-x8))/4294967296))) x16 (wrap64 (x17+1))) else (none))) else (none)) else (none)) else ((gr02_Whole.f k x7).bind fun t184=>(some t184))
def gr02_Sub.f (k:Nat) (l0:List Int) (l1:List Int):Option (List Int):=(gr02_Halves.f k l0).bind fun t173=>((gr02_Halves.f k l1).bind fun t176=>(gr02_Sub.l0 k t173 t176 ([]:List Int) 0 (t173.length:Int) 0))

/-! ### gr02_Bit: function 141 -/
def gr02_Bit.f (l0:List Int) (a1:Int):Option (Bool):=if a1≥0 then (if (wrap64 (Int.tdiv a1 64))<(l0.length:Int) then (if 0≤(wrap64 (Int.tdiv a1 64)) then (if 0≤(IntKind.u64.wrap (Int.tmod a1 64)) then (some ((Go.bits .and .u64 (shr .u64 (rd l0 (wrap64 (Int.tdiv a1 64))) (IntKind.u64.wrap (Int.tmod a1 64))) 1)==1)) else (none)) else (none)) else (some false)) else (some false)

/-! ### gr02_Even: function 156 -/
def gr02_Even.l0:Nat→List Int→Int→Option (Int)
 | 0,_,_=>none
 | k+1,x0,x3=>(gr02_Bit.f x0 x3).bind fun t402=>(if t402=true then (some x3) else (gr02_Even.l0 k x0 (wrap64 (x3+1))))
def gr02_Even.f (k:Nat) (l0:List Int):Option (Int):=(gr02_Size.f k l0).bind fun t401=>(if t401=0 then (some 0) else (gr02_Even.l0 k l0 0))

/-! ### gr05_Gcd: function 135 -/
mutual
def gr05_Gcd.j0:Nat→List Int→List Int→Bool→Option (List Int)
 | 0,_,_,_=>none
 | k+1,x0,x1,x28=>if x28=true then (if 0<(x0.length:Int) then (if 0<(x1.length:Int) then (gr05_Gcd.l0 k (rd x0 0) (rd x1 0)) else (none)) else (none)) else ((gr02_Even.f k x0).bind fun t418=>((gr02_Even.f k x1).bind fun t419=>((gr02_Even.f k x0).bind fun t420=>((gr02_Shr.f k x0 t420).bind fun t421=>((gr02_Even.f k x1).bind fun t424=>((gr02_Shr.f k x1 t424).bind fun t425=>(gr05_Gcd.l1 k (mn t418 t419) t421 t425)))))))
def gr05_Gcd.l0:Nat→Int→Int→Option (List Int)
 | 0,_,_=>none
 | k+1,x5,x6=>if x6>0 then (if x6=0 then (none) else (gr05_Gcd.l0 k x6 (Int.tmod x5 x6))) else (some (([x5]:List Int)))
def gr05_Gcd.l1:Nat→Int→List Int→List Int→Option (List Int)
 | 0,_,_,_=>none
 | k+1,x7,x8,x9=>(gr02_Cmp.f k x8 x9).bind fun t428=>(if t428=0 then ((gr02_Shl.f k x8 x7).bind fun t429=>(some t429)) else (if t428<0 then ((gr02_Sub.f k x9 x8).bind fun t432=>((gr02_Even.f k t432).bind fun t435=>((gr02_Shr.f k t432 t435).bind fun t436=>(gr05_Gcd.l1 k x7 t436 x8)))) else ((gr02_Sub.f k x8 x9).bind fun t439=>((gr02_Even.f k t439).bind fun t442=>((gr02_Shr.f k t439 t442).bind fun t443=>(gr05_Gcd.l1 k x7 t443 x9))))))
end
def gr05_Gcd.f (k:Nat) (l0:List Int) (l1:List Int):Option (List Int):=(gr02_Size.f k l0).bind fun t403=>(if t403=0 then ((gr02_Trim.f k l1).bind fun t404=>(some t404)) else ((gr02_Size.f k l1).bind fun t407=>(if t407=0 then ((gr02_Trim.f k l0).bind fun t408=>(some t408)) else ((gr02_Size.f k l0).bind fun t411=>(if t411=1 then ((gr02_Size.f k l1).bind fun t412=>(gr05_Gcd.j0 k l0 l1 (t412==1))) else (gr05_Gcd.j0 k l0 l1 false))))))

/-! ### gr02_Right: function 152 -/
def gr02_Right.f (k:Nat) (l0:List Int):Option (Bool):=(gr02_Size.f k l0).bind fun t709=>(some (t709==(l0.length:Int)))

/-! ### gr07_Right: function 131 -/
def gr07_Right.j0 (k:Nat) (x28:Bool) (x711000:Bool) (x711001:List Int) (x711002:List Int):Option (Bool):=if x28=true then (some false) else ((gr05_Gcd.f k x711001 x711002).bind fun t713=>((gr02_Cmp.f k t713 (([1]:List Int))).bind fun t719=>(some (t719==0))))
def gr07_Right.f (k:Nat) (a0_0:Bool) (l0_1:List Int) (l0_2:List Int):Option (Bool):=(gr02_Right.f k l0_1).bind fun t711=>(if t711=true then ((gr02_Right.f k l0_2).bind fun t712=>(if t712=true then (if (l0_2.length:Int)=0 then (gr07_Right.j0 k true a0_0 l0_1 l0_2) else (if a0_0=true then (gr07_Right.j0 k ((l0_1.length:Int)==0) a0_0 l0_1 l0_2) else (gr07_Right.j0 k false a0_0 l0_1 l0_2))) else (gr07_Right.j0 k true a0_0 l0_1 l0_2))) else (gr07_Right.j0 k true a0_0 l0_1 l0_2))

/-! ### gr16_Rats: function by hand -/
def gr16_Rats.l0:Nat→(List (Bool × (List Int) × List Int))→Int→Int→Option (Bool)
 | 0,_,_,_=>none
 | k+1,x0,x5,x6=>if x6<x5 then (if 0≤x6 then (if x6<(x0.length:Int) then ((gr07_Right.f k (rd_bLL x0 x6).1 (rd_bLL x0 x6).2.1 (rd_bLL x0 x6).2.2).bind fun t1=>(if t1=true then (gr16_Rats.l0 k x0 x5 (wrap64 (x6+1))) else (some false))) else none) else none) else (some true)
def gr16_Rats.f (k:Nat) (a0:List (Bool × (List Int) × List Int)):Option (Bool):=gr16_Rats.l0 k a0 (a0.length:Int) 0

/-! ### gradineplain_Longer: function by hand -/
def gradineplain_Longer.l0:Nat→(List (Bool × (List Int) × List Int))→Int→Int→Int→Option (Bool)
 | 0,_,_,_,_=>none
 | k+1,x0,x1,x7,x8=>if x8<x7 then (if 0≤x8 then (if x8<(x0.length:Int) then ((gradineplain_Long.f (rd_bLL x0 x8).1 (rd_bLL x0 x8).2.1 (rd_bLL x0 x8).2.2 x1).bind fun t1=>(if t1=true then (some true) else (gradineplain_Longer.l0 k x0 x1 x7 (wrap64 (x8+1))))) else none) else none) else (some false)
def gradineplain_Longer.f (k:Nat) (a0:List (Bool × (List Int) × List Int)) (a1:Int):Option (Bool):=gradineplain_Longer.l0 k a0 a1 (a0.length:Int) 0

/-! ### gr15_Arity: function 70 -/
mutual
def gr15_Arity.j0:Nat→Int→Bool→Option (Int)
 | 0,_,_=>none
 | k+1,x0,x8=>if x8=true then (some 0) else (if x0=3 then (gr15_Arity.j1 k x0 true) else (if x0≥8 then (gr15_Arity.j1 k x0 (decide (x0≤10))) else (gr15_Arity.j1 k x0 false)))
def gr15_Arity.j1:Nat→Int→Bool→Option (Int)
 | 0,_,_=>none
 | k+1,x0,x18=>if x18=true then (some 1) else (if x0≥4 then (if x0≤7 then (some 2) else (some (-1))) else (some (-1)))
end
def gr15_Arity.f (k:Nat) (a0:Int):Option (Int):=if a0=1 then (gr15_Arity.j0 k a0 true) else (gr15_Arity.j0 k a0 (a0==2))

/-! ### gr07_Words: function 109 -/
def gr07_Words.l0:Nat→List Int→List Int→Int→Int→Option (Bool)
 | 0,_,_,_,_=>none
 | k+1,x0,x1,x12,x13=>if x13<x12 then (if 0≤x13 then (if x13<(x0.length:Int) then (if x13<(x1.length:Int) then (if (rd x0 x13)=(rd x1 x13) then (gr07_Words.l0 k x0 x1 x12 (wrap64 (x13+1))) else (some false)) else (none)) else (none)) else (none)) else (some true)
def gr07_Words.f (k:Nat) (l0:List Int) (l1:List Int):Option (Bool):=if (l0.length:Int)=(l1.length:Int) then (gr07_Words.l0 k l0 l1 (l0.length:Int) 0) else (some false)

/-! ### gr07_Same: function 61 -/
def gr07_Same.f (k:Nat) (a0_0:Bool) (l0_1:List Int) (l0_2:List Int) (a1_0:Bool) (l1_1:List Int) (l1_2:List Int):Option (Bool):=if (a0_0==a1_0)=true then ((gr07_Words.f k l0_1 l1_1).bind fun t706=>(if t706=true then ((gr07_Words.f k l0_2 l1_2).bind fun t707=>(some t707)) else (some false))) else (some false)

/-! ### gr15_None: function 167 -/
def gr15_None.f (k:Nat) (a0_0:Bool) (l0_1:List Int) (l0_2:List Int):Option (Bool):=(gr07_Same.f k a0_0 l0_1 l0_2 false ([]:List Int) ([]:List Int)).bind fun t1048=>(some t1048)

/-! ### gr15_Fits: function 92 -/
def gr15_Fits.f (k:Nat) (a0_0:Int) (a0_1:Int) (a0_2:Int) (a0_3:Bool) (l0_4:List Int) (l0_5:List Int) (a1:Int):Option (Bool):=if a0_0=2 then (if a0_1=0 then (if a0_2=0 then ((gr07_Right.f k a0_3 l0_4 l0_5).bind fun t1050=>(some t1050)) else (some false)) else (some false)) else ((gr15_None.f k a0_3 l0_4 l0_5).bind fun t1051=>(if t1051=true then (if a0_0=1 then (if a0_1≥0 then (if a0_1<65536 then (some (a0_2==0)) else (some false)) else (some false)) else ((gr15_Arity.f k a0_0).bind fun t1052=>(if t1052=1 then (if a0_1≥0 then (if a0_1<a1 then (some (a0_2==0)) else (some false)) else (some false)) else ((gr15_Arity.f k a0_0).bind fun t1053=>(if t1053=2 then (if a0_1≥0 then (if a0_1<a1 then (if a0_2≥0 then (some (decide (a0_2<a1))) else (some false)) else (some false)) else (some false)) else (some false)))))) else (some false)))

/-! ### gr15_Right: function by hand -/
def gr15_Right.l0:Nat→(List (Int × Int × Int × Bool × (List Int) × List Int))→Int→Int→Option (Bool)
 | 0,_,_,_=>none
 | k+1,x0,x5,x6=>if x6<x5 then (if 0≤x6 then (if x6<(x0.length:Int) then ((gr15_Fits.f k (rd_iiibLL x0 x6).1 (rd_iiibLL x0 x6).2.1 (rd_iiibLL x0 x6).2.2.1 (rd_iiibLL x0 x6).2.2.2.1 (rd_iiibLL x0 x6).2.2.2.2.1 (rd_iiibLL x0 x6).2.2.2.2.2 x6).bind fun t1=>(if t1=true then (gr15_Right.l0 k x0 x5 (wrap64 (x6+1))) else (some false))) else none) else none) else (some (decide ((x0.length:Int)≤65536)))
def gr15_Right.f (k:Nat) (a0:List (Int × Int × Int × Bool × (List Int) × List Int)):Option (Bool):=gr15_Right.l0 k a0 (a0.length:Int) 0

/-! ### line_Needs: function by hand -/
mutual
def line_Needs.l0:Nat→(List (Int × Int × Int × Bool × (List Int) × List Int))→List Bool→List Int→Int→Int→Option (List Bool)
 | 0,_,_,_,_,_=>none
 | k+1,x0,x5,x16,x17,x18=>if x18<x17 then (if 0≤x18 then (if x18<(x16.length:Int) then (if (rd x16 x18)≥0 then (if (rd x16 x18)<(x0.length:Int) then (if 0≤(rd x16 x18) then (if (rd x16 x18)<(x5.length:Int) then (line_Needs.j9 k x0 (x5.set ((rd x16 x18):Int).toNat true) x16 x17 x18) else none) else none) else (line_Needs.j9 k x0 x5 x16 x17 x18)) else (line_Needs.j9 k x0 x5 x16 x17 x18)) else none) else none) else (line_Needs.l1 k x0 x5 (wrap64 ((x0.length:Int)-1)))
def line_Needs.j9:Nat→(List (Int × Int × Int × Bool × (List Int) × List Int))→List Bool→List Int→Int→Int→Option (List Bool)
 | 0,_,_,_,_,_=>none
 | k+1,x0,x5,x16,x17,x18=>line_Needs.l0 k x0 x5 x16 x17 (wrap64 (x18+1))
def line_Needs.l1:Nat→(List (Int × Int × Int × Bool × (List Int) × List Int))→List Bool→Int→Option (List Bool)
 | 0,_,_,_=>none
 | k+1,x0,x5,x8=>if x8≥0 then (if 0≤x8 then (if x8<(x0.length:Int) then ((line_Arity.f k (rd_iiibLL x0 x8).1).bind fun t2=>(if x8<(x5.length:Int) then (if (rd_b x5 x8)=true then (if t2>0 then (if 0≤(rd_iiibLL x0 x8).2.1 then (if (rd_iiibLL x0 x8).2.1<(x5.length:Int) then (if 0≤(rd_iiibLL x0 x8).2.2.1 then (if (rd_iiibLL x0 x8).2.2.1<((x5.set ((rd_iiibLL x0 x8).2.1:Int).toNat true).length:Int) then (if (rd_b (x5.set ((rd_iiibLL x0 x8).2.1:Int).toNat true) (rd_iiibLL x0 x8).2.2.1)=true then (line_Needs.l1 k x0 ((x5.set ((rd_iiibLL x0 x8).2.1:Int).toNat true).set ((rd_iiibLL x0 x8).2.2.1:Int).toNat true) (wrap64 (x8-1))) else (line_Needs.l1 k x0 ((x5.set ((rd_iiibLL x0 x8).2.1:Int).toNat true).set ((rd_iiibLL x0 x8).2.2.1:Int).toNat (t2==2)) (wrap64 (x8-1)))) else none) else none) else none) else none) else (line_Needs.l1 k x0 x5 (wrap64 (x8-1)))) else (line_Needs.l1 k x0 x5 (wrap64 (x8-1)))) else none)) else none) else none) else (some x5)
end
def line_Needs.f (k:Nat) (a0:List (Int × Int × Int × Bool × (List Int) × List Int)) (a1:List Int):Option (List Bool):=(line_Right.f k a0).bind fun t1=>(if t1=true then (if 0≤(a0.length:Int) then (if ((a0.length:Int):Int).toNat*1≤281474976710656 then (line_Needs.l0 k a0 (List.replicate ((a0.length:Int):Int).toNat false) a1 (a1.length:Int) 0) else none) else none) else (some ([]:List Bool)))

/-! ### line_Trim: function by hand -/
mutual
def line_Trim.l0:Nat→(List (Int × Int × Int × Bool × (List Int) × List Int))→List Int→List Bool→(List (Int × Int))→(List (Int × Int × Int × Bool × (List Int) × List Int))→(List (Int × Int × Int × Bool × (List Int) × List Int))→Int→Int→Option (List (Int × Int × Int × Bool × (List Int) × List Int) × List Int)
 | 0,_,_,_,_,_,_,_,_=>none
 | k+1,x0,x1,x6,x7,x8,x21,x22,x23=>if x23<x22 then (if 0≤x23 then (if x23<(x21.length:Int) then (if x23<(x6.length:Int) then (if (rd_b x6 x23)=true then ((line_Arity.f k (rd_iiibLL x21 x23).1).bind fun t3=>(if t3=2 then (line_Trim.j16 k x0 x1 x6 (YtjocbnjpjihpnaaGreatW.Abs.mput x7 x23 (x8.length:Int)) x8 x21 x22 x23 (rd_iiibLL x21 x23).1 (YtjocbnjpjihpnaaGreatW.Abs.mget (YtjocbnjpjihpnaaGreatW.Abs.mput x7 x23 (x8.length:Int)) (rd_iiibLL x21 x23).2.1) (YtjocbnjpjihpnaaGreatW.Abs.mget (YtjocbnjpjihpnaaGreatW.Abs.mput x7 x23 (x8.length:Int)) (rd_iiibLL x21 x23).2.2.1) (rd_iiibLL x21 x23).2.2.2.1 (rd_iiibLL x21 x23).2.2.2.2.1 (rd_iiibLL x21 x23).2.2.2.2.2) else (if t3=1 then (line_Trim.j16 k x0 x1 x6 (YtjocbnjpjihpnaaGreatW.Abs.mput x7 x23 (x8.length:Int)) x8 x21 x22 x23 (rd_iiibLL x21 x23).1 (YtjocbnjpjihpnaaGreatW.Abs.mget (YtjocbnjpjihpnaaGreatW.Abs.mput x7 x23 (x8.length:Int)) (rd_iiibLL x21 x23).2.1) (rd_iiibLL x21 x23).2.2.1 (rd_iiibLL x21 x23).2.2.2.1 (rd_iiibLL x21 x23).2.2.2.2.1 (rd_iiibLL x21 x23).2.2.2.2.2) else (line_Trim.j16 k x0 x1 x6 (YtjocbnjpjihpnaaGreatW.Abs.mput x7 x23 (x8.length:Int)) x8 x21 x22 x23 (rd_iiibLL x21 x23).1 (rd_iiibLL x21 x23).2.1 (rd_iiibLL x21 x23).2.2.1 (rd_iiibLL x21 x23).2.2.2.1 (rd_iiibLL x21 x23).2.2.2.2.1 (rd_iiibLL x21 x23).2.2.2.2.2)))) else (line_Trim.j18 k x0 x1 x6 (YtjocbnjpjihpnaaGreatW.Abs.mput x7 x23 (x8.length:Int)) x8 x21 x22 x23)) else none) else none) else none) else (line_Trim.l1 k x0 x7 x8 [] x1 (x1.length:Int) 0)
def line_Trim.j16:Nat→(List (Int × Int × Int × Bool × (List Int) × List Int))→List Int→List Bool→(List (Int × Int))→(List (Int × Int × Int × Bool × (List Int) × List Int))→(List (Int × Int × Int × Bool × (List Int) × List Int))→Int→Int→Int→Int→Int→Bool→List Int→List Int→Option (List (Int × Int × Int × Bool × (List Int) × List Int) × List Int)
 | 0,_,_,_,_,_,_,_,_,_,_,_,_,_,_=>none
 | k+1,x0,x1,x6,x7,x8,x21,x22,x23,v10_0,v10_1,v10_2,v10_3,v10_4,v10_5=>if (([]:List Int).length+v10_4.length)*8≤140737488355328 then (if (([]:List Int).length+v10_5.length)*8≤140737488355328 then (if (x8.length+1)*80≤140737488355328 then (line_Trim.j18 k x0 x1 x6 x7 (x8++ [(v10_0,(v10_1,(v10_2,(v10_3,((([]:List Int)++v10_4),(([]:List Int)++v10_5))))))]) x21 x22 x23) else none) else none) else none
def line_Trim.j18:Nat→(List (Int × Int × Int × Bool × (List Int) × List Int))→List Int→List Bool→(List (Int × Int))→(List (Int × Int × Int × Bool × (List Int) × List Int))→(List (Int × Int × Int × Bool × (List Int) × List Int))→Int→Int→Option (List (Int × Int × Int × Bool × (List Int) × List Int) × List Int)
 | 0,_,_,_,_,_,_,_,_=>none
 | k+1,x0,x1,x6,x7,x8,x21,x22,x23=>line_Trim.l0 k x0 x1 x6 x7 x8 x21 x22 (wrap64 (x23+1))
def line_Trim.l1:Nat→(List (Int × Int × Int × Bool × (List Int) × List Int))→(List (Int × Int))→(List (Int × Int × Int × Bool × (List Int) × List Int))→List Int→List Int→Int→Int→Option (List (Int × Int × Int × Bool × (List Int) × List Int) × List Int)
 | 0,_,_,_,_,_,_,_=>none
 | k+1,x0,x7,x8,x11,x79,x80,x81=>if x81<x80 then (if 0≤x81 then (if x81<(x79.length:Int) then (if (rd x79 x81)<0 then (line_Trim.j24 k x0 x7 x8 x11 x79 x80 x81) else (if (rd x79 x81)≥(x0.length:Int) then (line_Trim.j24 k x0 x7 x8 x11 x79 x80 x81) else (if (x11.length+1)*8≤140737488355328 then (line_Trim.l1 k x0 x7 x8 (x11++ [(YtjocbnjpjihpnaaGreatW.Abs.mget x7 (rd x79 x81))]) x79 x80 (wrap64 (x81+1))) else none))) else none) else none) else (some (x8,x11))
def line_Trim.j24:Nat→(List (Int × Int × Int × Bool × (List Int) × List Int))→(List (Int × Int))→(List (Int × Int × Int × Bool × (List Int) × List Int))→List Int→List Int→Int→Int→Option (List (Int × Int × Int × Bool × (List Int) × List Int) × List Int)
 | 0,_,_,_,_,_,_,_=>none
 | k+1,x0,x7,x8,x11,x79,x80,x81=>if (x11.length+1)*8≤140737488355328 then (line_Trim.l1 k x0 x7 x8 (x11++ [(-1)]) x79 x80 (wrap64 (x81+1))) else none
end
def line_Trim.f (k:Nat) (a0:List (Int × Int × Int × Bool × (List Int) × List Int)) (a1:List Int):Option (List (Int × Int × Int × Bool × (List Int) × List Int) × List Int):=(line_Needs.f k a0 a1).bind fun t1=>((line_Right.f k a0).bind fun t2=>(if t2=true then (line_Trim.l0 k a0 a1 t1 ([]:List (Int × Int)) [] a0 (a0.length:Int) 0) else (some (([]:List (Int × Int × Int × Bool × (List Int) × List Int)),([]:List Int)))))

/-! ### gr01_Len: function 142 -/
def gr01_Len.l0:Nat→Int→Int→Option (Int)
 | 0,_,_=>none
 | k+1,x0,x3=>if x0>0 then (gr01_Len.l0 k (x0/2) (wrap64 (x3+1))) else (some x3)
def gr01_Len.f (k:Nat) (a0:Int):Option (Int):=gr01_Len.l0 k a0 0

/-! ### gr02_Add: function 108 -/
def gr02_Add.l0:Nat→List Int→List Int→List Int→Int→Int→Int→Option (List Int)
 | 0,_,_,_,_,_,_=>none
 | k+1,x5,x6,x7,x8,x19,x20=>if x20<x19 then ((gr02_at.f x5 x20).bind fun t195=>((gr02_at.f x6 x20).bind fun t196=>(if x7.length<17592186044416 then (gr02_Add.l0 k x5 x6 (x7++ [Go.bits .and .u64 (IntKind.u64.wrap ((IntKind.u64.wrap (x8+t195))+t196)) 4294967295]) ((IntKind.u64.wrap ((IntKind.u64.wrap (x8+t195))+t196))/4294967296) x19 (wrap64 (x20+1))) else (none)))) else ((gr02_Whole.f k x7).bind fun t200=>(some t200))
def gr02_Add.f (k:Nat) (l0:List Int) (l1:List Int):Option (List Int):=(gr02_Halves.f k l0).bind fun t189=>((gr02_Halves.f k l1).bind fun t192=>(gr02_Add.l0 k t189 t192 ([]:List Int) 0 (wrap64 ((mx (t189.length:Int) (t192.length:Int))+1)) 0))

/-! ### gr02_Bits: function 101 -/
def gr02_Bits.f (k:Nat) (l0:List Int):Option (Int):=(gr02_Size.f k l0).bind fun t147=>(if t147=0 then (some 0) else (if 0≤(wrap64 (t147-1)) then (if (wrap64 (t147-1))<(l0.length:Int) then ((gr01_Len.f k (rd l0 (wrap64 (t147-1)))).bind fun t149=>(some (wrap64 ((wrap64 ((wrap64 (64*t147))-64))+t149)))) else (none)) else (none)))

/-! ### gr03_Mul: function 107 -/
mutual
def gr03_Mul.l0:Nat→List Int→List Int→List Int→Int→Int→Option (List Int)
 | 0,_,_,_,_,_=>none
 | k+1,x5,x6,x7,x23,x24=>if x24<x23 then (gr03_Mul.l1 k x5 x6 x7 x24 0 x23 x24 (x6.length:Int) 0) else ((gr02_Whole.f k x7).bind fun t583=>(some t583))
def gr03_Mul.l1:Nat→List Int→List Int→List Int→Int→Int→Int→Int→Int→Int→Option (List Int)
 | 0,_,_,_,_,_,_,_,_,_=>none
 | k+1,x5,x6,x7,x8,x9,x23,x24,x28,x29=>if x29<x28 then (if 0≤x8 then (if x8<(x5.length:Int) then (if 0≤x29 then (if x29<(x6.length:Int) then (if 0≤(wrap64 (x8+x29)) then (if (wrap64 (x8+x29))<(x7.length:Int) then (gr03_Mul.l1 k x5 x6 (x7.set ((wrap64 (x8+x29)):Int).toNat (Go.bits .and .u64 (IntKind.u64.wrap ((IntKind.u64.wrap (x9+(IntKind.u64.wrap ((rd x5 x8)*(rd x6 x29)))))+(rd x7 (wrap64 (x8+x29))))) 4294967295)) x8 ((IntKind.u64.wrap ((IntKind.u64.wrap (x9+(IntKind.u64.wrap ((rd x5 x8)*(rd x6 x29)))))+(rd x7 (wrap64 (x8+x29)))))/4294967296) x23 x24 x28 (wrap64 (x29+1))) else (none)) else (none)) else (none)) else (none)) else (none)) else (none)) else (if 0≤(wrap64 (x8+(x6.length:Int))) then (if (wrap64 (x8+(x6.length:Int)))<(x7.length:Int) then (gr03_Mul.l0 k x5 x6 (x7.set ((wrap64 (x8+(x6.length:Int))):Int).toNat x9) x23 (wrap64 (x24+1))) else (none)) else (none))
end
def gr03_Mul.f (k:Nat) (l0:List Int) (l1:List Int):Option (List Int):=(gr02_Halves.f k l0).bind fun t574=>((gr02_Halves.f k l1).bind fun t577=>(if 0≤(wrap64 ((wrap64 ((t574.length:Int)+(t577.length:Int)))+1)) then (if (wrap64 ((wrap64 ((t574.length:Int)+(t577.length:Int)))+1):Int).toNat≤35184372088832 then (gr03_Mul.l0 k t574 t577 (List.replicate (wrap64 ((wrap64 ((t574.length:Int)+(t577.length:Int)))+1):Int).toNat 0) (t574.length:Int) 0) else (none)) else (none)))

/-! ### gr04_set: function 151 -/
def gr04_set.l0:Nat→List Int→Int→List Int→Int→Int→Option (List Int)
 | 0,_,_,_,_,_=>none
 | k+1,x0,x1,x5,x13,x14=>if x14<x13 then (if x14<(x0.length:Int) then (if 0≤x14 then (if x14=(wrap64 (Int.tdiv x1 64)) then (if 0≤(IntKind.u64.wrap (Int.tmod x1 64)) then (if x5.length<17592186044416 then (gr04_set.l0 k x0 x1 (x5++ [Go.bits .or .u64 (rd x0 x14) (shl .u64 1 (IntKind.u64.wrap (Int.tmod x1 64)))]) x13 (wrap64 (x14+1))) else (none)) else (none)) else (if x5.length<17592186044416 then (gr04_set.l0 k x0 x1 (x5++ [rd x0 x14]) x13 (wrap64 (x14+1))) else (none))) else (none)) else (if x14=(wrap64 (Int.tdiv x1 64)) then (if 0≤(IntKind.u64.wrap (Int.tmod x1 64)) then (if x5.length<17592186044416 then (gr04_set.l0 k x0 x1 (x5++ [Go.bits .or .u64 0 (shl .u64 1 (IntKind.u64.wrap (Int.tmod x1 64)))]) x13 (wrap64 (x14+1))) else (none)) else (none)) else (if x5.length<17592186044416 then (gr04_set.l0 k x0 x1 (x5++ [0]) x13 (wrap64 (x14+1))) else (none)))) else (some x5)
def gr04_set.f (k:Nat) (l0:List Int) (a1:Int):Option (List Int):=gr04_set.l0 k l0 a1 ([]:List Int) (mx (l0.length:Int) (wrap64 ((wrap64 (Int.tdiv a1 64))+1))) 0

/-! ### gr04_Root: function 235 -/
def gr04_Root.l0:Nat→List Int→List Int→Int→Option (List Int)
 | 0,_,_,_=>none
 | k+1,x0,x3,x4=>if x4≥0 then ((gr04_set.f k x3 x4).bind fun t1792=>((gr03_Mul.f k t1792 t1792).bind fun t1795=>((gr02_Cmp.f k t1795 x0).bind fun t1798=>(if t1798≤0 then (gr04_Root.l0 k x0 t1792 (wrap64 (x4-1))) else (gr04_Root.l0 k x0 x3 (wrap64 (x4-1))))))) else ((gr02_Trim.f k x3).bind fun t1789=>(some t1789))
def gr04_Root.f (k:Nat) (l0:List Int):Option (List Int):=(gr02_Bits.f k l0).bind fun t1788=>(gr04_Root.l0 k l0 ([]:List Int) (wrap64 (Int.tdiv (wrap64 (t1788+1)) 2)))

/-! ### gr09_Field: function 88 -/
def gr09_Field.f (a0:Int):Option (Int):=some (wrap64 (Go.bits .and .u64 (a0/4503599627370496) 2047))

/-! ### gr09_Signed: function 91 -/
def gr09_Signed.f (a0:Bool) (a1:Int):Option (Int):=if a0=true then (some (IntKind.u64.wrap (a1+9223372036854775808))) else (some a1)

/-! ### gr09_Inf: function 35 -/
def gr09_Inf.f (a0:Bool):Option (Int):=(gr09_Signed.f a0 9218868437227405312).bind fun t104=>(some t104)

/-! ### gr09_Rest: function 96 -/
def gr09_Rest.f (a0:Int):Option (Int):=some (Go.bits .and .u64 a0 4503599627370495)

/-! ### gr09_Kind: function 40 -/
def gr09_Kind.f (a0:Int):Option (Int):=(gr09_Field.f a0).bind fun t698=>(if t698=2047 then ((gr09_Rest.f a0).bind fun t699=>(if t699=0 then (some 3) else (some 4))) else ((gr09_Field.f a0).bind fun t700=>(if t700>0 then (some 2) else ((gr09_Rest.f a0).bind fun t701=>(if t701>0 then (some 1) else (some 0))))))

/-! ### gr09_Make: function 31 -/
mutual
def gr09_Make.j0:Nat→Bool→Int→Int→Bool→Option (Int × Bool)
 | 0,_,_,_,_=>none
 | k+1,x0,x1,x2,x17=>if x17=true then (some (0,false)) else (gr09_Make.l0 k x0 x1 x2)
def gr09_Make.l0:Nat→Bool→Int→Int→Option (Int × Bool)
 | 0,_,_,_=>none
 | k+1,x0,x1,x2=>if (Int.tmod x1 2)=0 then (gr09_Make.l0 k x0 (IntKind.u64.wrap (Int.tdiv x1 2)) (wrap64 (x2+1))) else (if x1≥9007199254740992 then (gr09_Make.j2 k x0 x1 x2 true) else (gr09_Make.j2 k x0 x1 x2 (decide (x2<(-1074)))))
def gr09_Make.j2:Nat→Bool→Int→Int→Bool→Option (Int × Bool)
 | 0,_,_,_,_=>none
 | k+1,x0,x1,x2,x30=>if x30=true then (some (0,false)) else (gr09_Make.l1 k x0 x1 x2)
def gr09_Make.j4:Nat→Bool→Int→Int→Option (Int × Bool)
 | 0,_,_,_=>none
 | k+1,x0,x1,x2=>if x1<4503599627370496 then ((gr09_Signed.f x0 x1).bind fun t102=>(some (t102,true))) else (if x2>971 then (some (0,false)) else ((gr09_Signed.f x0 (IntKind.u64.wrap ((IntKind.u64.wrap ((IntKind.u64.wrap ((IntKind.u64.wrap (wrap64 (x2+1075)))*4503599627370496))+x1))-4503599627370496))).bind fun t103=>(some (t103,true))))
def gr09_Make.l1:Nat→Bool→Int→Int→Option (Int × Bool)
 | 0,_,_,_=>none
 | k+1,x0,x1,x2=>if x1<4503599627370496 then (if x2>(-1074) then (gr09_Make.l1 k x0 (IntKind.u64.wrap (x1*2)) (wrap64 (x2-1))) else (gr09_Make.j4 k x0 x1 x2)) else (gr09_Make.j4 k x0 x1 x2)
end
def gr09_Make.f (k:Nat) (a0:Bool) (a1:Int) (a2:Int):Option (Int × Bool):=if a1=0 then ((gr09_Signed.f a0 0).bind fun t101=>(some (t101,true))) else (if a2<(-1200) then (gr09_Make.j0 k a0 a1 a2 true) else (gr09_Make.j0 k a0 a1 a2 (decide (a2>1200))))

/-! ### gr09_Nan: function 33 -/
def gr09_Nan.f  :Option (Int):=some 9221120237041090560

/-! ### gr09_Neg: function 27 -/
def gr09_Neg.f (a0:Int):Option (Bool):=some ((a0/9223372036854775808)==1)

/-! ### gr09_Parts: function 42 -/
def gr09_Parts.f (a0:Int):Option (Int × Int):=(gr09_Field.f a0).bind fun t671=>(if t671=0 then ((gr09_Rest.f a0).bind fun t672=>(some (t672,(-1074)))) else ((gr09_Rest.f a0).bind fun t673=>((gr09_Field.f a0).bind fun t674=>(some (IntKind.u64.wrap (t673+4503599627370496),wrap64 (t674-1075))))))

/-! ### gr10_Half: function 95 -/
def gr10_Half.f (k:Nat) (l0:List Int):Option (List Int):=(gr02_Shl.f k l0 1).bind fun t251=>((gr02_Add.f k t251 (([1]:List Int))).bind fun t257=>(some t257))

/-! ### gr10_Of: function 94 -/
mutual
def gr10_Of.j0:Nat→Bool→Int→List Int→Option (Int)
 | 0,_,_,_=>none
 | k+1,x0,x8,x9=>if (x9.length:Int)>0 then (if 0<(x9.length:Int) then (gr10_Of.j1 k x0 x8 (rd x9 0)) else (none)) else (gr10_Of.j1 k x0 x8 0)
def gr10_Of.j1:Nat→Bool→Int→Int→Option (Int)
 | 0,_,_,_=>none
 | k+1,x0,x8,x12=>(gr09_Make.f k x0 x12 x8).bind fun bt248=>(if bt248.2=true then (some bt248.1) else ((gr09_Inf.f x0).bind fun t250=>(some t250)))
end
def gr10_Of.f (k:Nat) (a0:Bool) (l1:List Int) (a2:Int):Option (Int):=(gr02_Trim.f k l1).bind fun t204=>(if (t204.length:Int)=0 then ((gr09_Signed.f a0 0).bind fun t207=>(some t207)) else ((gr02_Bits.f k t204).bind fun t208=>(if a2>2000 then ((gr09_Inf.f a0).bind fun t209=>(some t209)) else (if a2<(wrap64 ((-1200)-t208)) then ((gr09_Signed.f a0 0).bind fun t210=>(some t210)) else (if (mx (wrap64 ((wrap64 (t208+a2))-53)) (-1074))>971 then ((gr09_Inf.f a0).bind fun t211=>(some t211)) else ((gr02_Shl.f k t204 (wrap64 (a2-(mx (wrap64 ((wrap64 (t208+a2))-53)) (-1074))))).bind fun t212=>(if a2<(mx (wrap64 ((wrap64 (t208+a2))-53)) (-1074)) then ((gr02_Shr.f k t204 (wrap64 ((mx (wrap64 ((wrap64 (t208+a2))-53)) (-1074))-a2))).bind fun t215=>((gr02_Shl.f k t215 (wrap64 ((mx (wrap64 ((wrap64 (t208+a2))-53)) (-1074))-a2))).bind fun t218=>((gr02_Sub.f k t204 t218).bind fun t221=>((gr02_Shl.f k t221 1).bind fun t224=>((gr02_Shl.f k (([1]:List Int)) (wrap64 ((mx (wrap64 ((wrap64 (t208+a2))-53)) (-1074))-a2))).bind fun t230=>((gr02_Cmp.f k t224 t230).bind fun t233=>(if t233>0 then ((gr02_Add.f k t215 (([1]:List Int))).bind fun t237=>(gr10_Of.j0 k a0 (mx (wrap64 ((wrap64 (t208+a2))-53)) (-1074)) t237)) else (if t233=0 then ((gr02_Bit.f t215 0).bind fun t240=>(if t240=true then ((gr02_Add.f k t215 (([1]:List Int))).bind fun t244=>(gr10_Of.j0 k a0 (mx (wrap64 ((wrap64 (t208+a2))-53)) (-1074)) t244)) else (gr10_Of.j0 k a0 (mx (wrap64 ((wrap64 (t208+a2))-53)) (-1074)) t215))) else (gr10_Of.j0 k a0 (mx (wrap64 ((wrap64 (t208+a2))-53)) (-1074)) t215))))))))) else (gr10_Of.j0 k a0 (mx (wrap64 ((wrap64 (t208+a2))-53)) (-1074)) t212))))))))

/-! ### gr10_More: function 37 -/
def gr10_More.f (k:Nat) (a0:Bool) (l1:List Int) (a2:Int) (a3:Bool):Option (Int):=if a3=true then ((gr10_Half.f k l1).bind fun t260=>((gr10_Of.f k a0 t260 ((mn (mx a2 (-1099511627776)) 1099511627776)-1)).bind fun t263=>(some t263))) else ((gr10_Of.f k a0 l1 (mn (mx a2 (-1099511627776)) 1099511627776)).bind fun t264=>(some t264))

/-! ### gr12_Sqrt: function 164 -/
mutual
def gr12_Sqrt.j0:Nat→Int→Int→Bool→Option (Int)
 | 0,_,_,_=>none
 | k+1,x0,x3,x19=>if x19=true then ((gr09_Nan.f).bind fun t1801=>(some t1801)) else (if x3=3 then (some x0) else ((gr09_Parts.f x0).bind fun bt1802=>(if (Int.tmod (wrap64 (bt1802.2-160)) 2)=0 then (gr12_Sqrt.j1 k bt1802.1 bt1802.2 160) else (gr12_Sqrt.j1 k bt1802.1 bt1802.2 (160+1)))))
def gr12_Sqrt.j1:Nat→Int→Int→Int→Option (Int)
 | 0,_,_,_=>none
 | k+1,x4,x5,x6=>(gr02_Shl.f k (([x4]:List Int)) x6).bind fun t1807=>((gr04_Root.f k t1807).bind fun t1810=>((gr03_Mul.f k t1810 t1810).bind fun t1813=>((gr02_Cmp.f k t1813 t1807).bind fun t1816=>((gr10_More.f k false t1810 (wrap64 (Int.tdiv (wrap64 (x5-x6)) 2)) (t1816 !=0)).bind fun t1817=>(some t1817)))))
end
def gr12_Sqrt.f (k:Nat) (a0:Int):Option (Int):=(gr09_Kind.f a0).bind fun t1799=>(if t1799=0 then (some a0) else (if t1799=4 then (gr12_Sqrt.j0 k a0 t1799 true) else ((gr09_Neg.f a0).bind fun t1800=>(gr12_Sqrt.j0 k a0 t1799 t1800))))

end Go.Proofs.YtjocbnjpjihpnaaGreat.P
