/- Functions of one package as Lean functions, and walks: written by a program for this claim. -/
import Derived.Test.YtjocbnjpjihpnaaGreatFbase
import Derived.Test.YtjocbnjpjihpnaaGreatFsxbase
namespace Go.Proofs.YtjocbnjpjihpnaaGreat.P
open Go.RowKit Go.Proofs.YtjocbnjpjihpnaaGreatW.PrintWords Go.Proofs.YtjocbnjpjihpnaaGreatW.PrintLast Go.Proofs.YtjocbnjpjihpnaaGreatW.PrintMore
attribute [local go_sem] max2_int min2_int max_two min_two max_three min_three max_four min_four
set_option linter.unusedVariables false
set_option linter.unusedSimpArgs false

/-! ### nat_Right: function 54 -/
def nat_Right.f (l0:List Int):Option (Bool):=if (l0.length:Int)=0 then (some true) else (if 0≤(wrap64 ((l0.length:Int)-1)) then (if (wrap64 ((l0.length:Int)-1))<(l0.length:Int) then (some ((rd l0 (wrap64 ((l0.length:Int)-1))) !=0)) else (none)) else (none))

/-! ### nat_size: function 192 -/
def nat_size.l0:Nat→List Int→Int→Option (Int)
 | 0,_,_=>none
 | k+1,x0,x3=>if x3>0 then (if 0≤(wrap64 (x3-1)) then (if (wrap64 (x3-1))<(x0.length:Int) then (if (rd x0 (wrap64 (x3-1)))=0 then (nat_size.l0 k x0 (wrap64 (x3-1))) else (some x3)) else (none)) else (none)) else (some x3)
def nat_size.f (k:Nat) (l0:List Int):Option (Int):=nat_size.l0 k l0 (l0.length:Int)
set_option maxHeartbeats 8000000 in
set_option maxRecDepth 100000 in
theorem nat_size.calls (k:Nat) (A0:Option Addr) (c0:Nat) (l0:List Int) (r:Int) (w:World) (hr0:Kd.C (Kd.int .u64) w A0 l0.length l0) (hc0:l0.length≤c0) (h:nat_size.f k l0=some r) :
 Calls Tryz.prog 192 #[.slice A0 l0.length c0] w fun e w'=>e= .returned (.int .i64 r)∧Drawn0 w w':=by
 have HR0:=Aside0.mk hr0
 have HC0:=Aside0.mk hc0
 clear hr0 hc0
 have H:(nat_size.l0 k l0 (l0.length:Int))=some r:=h
 clear h
 have H':=Aside0.mk H
 clear H
 go_enter Tryz.func192,Tryz.ntmps192
 go_wp2
 go_loopg [3] k (fun kq v3 w'=> ∃ (x3_1:Int),v3= .int .i64 x3_1∧Aside0 (nat_size.l0 kq l0 x3_1=some r)∧Aside0 (kq≤k)∧Drawn0 w w')
 case atStart=>exact ⟨((l0.length:Int)),(by first | rfl | (simp;done) | (simp [*];done)),H',⟨Nat.le_refl _⟩,by repeat (first | exact Drawn0.refl _ | apply Drawn0.step)⟩
 case round =>
  clear H'
  try clear c1
  obtain ⟨x3_1,rfl,HA,HK1,⟨m1,rfl⟩⟩:=hrel
  cases gk with
  | zero=>exact absurd HA.out (by simp [nat_size.l0])
  | succ k1 =>
    have H:=HA.out
    clear HA
    simp only [nat_size.l0] at H
    by_cases c2:x3_1>0
    · rw [if_pos c2] at H
      have c2b0:decide (0<x3_1)=true:=decide_eq_true c2
      clear c2
      obtain ⟨ji3,hji3⟩ : ∃ j_:Int,(wrap64 (x3_1-1))=j_:=⟨_,rfl⟩
      replace H:(if 0≤(ji3) then (if (ji3)<(l0.length:Int) then (if (rd l0 (ji3))=0 then (nat_size.l0 k1 l0 ji3) else (some x3_1)) else (none)) else (none))=some r:=by first | (rw [hji3] at H;exact H) | (simp only [hji3] at H ⊢;exact H)
      have hji3w:(IntKind.i64.wrap (x3_1-1))=ji3:=(i64_w _).trans hji3
      by_cases c4:0≤(ji3)
      · rw [if_pos c4] at H
        have c4b0:decide (0≤(ji3))=true:=decide_eq_true c4
        clear c4
        by_cases c5:(ji3)<(l0.length:Int)
        · rw [if_pos c5] at H
          have c5b0:decide ((ji3)<(l0.length:Int))=true:=decide_eq_true c5
          clear c5
          by_cases c6:(rd l0 (ji3))=0
          · rw [if_pos c6] at H
            have c6b0:((rd l0 (ji3))==0)=true:=beq_iff_eq.mpr c6
            have c6b1:((rd l0 (ji3)) !=0)=false:=bne_eq_false_iff_eq.mpr c6
            clear c6
            have H':=Aside0.mk H
            clear H
            have p113:0≤((ji3):Int):=of_decide_eq_true (by first | (with_reducible assumption) | assumption)
            have q113:(ji3)<(l0.length:Int):=of_decide_eq_true (by first | (with_reducible assumption) | assumption)
            obtain ⟨ad113,e113,hx113_0⟩:=Kd.at_int HR0.out (ji3) p113 q113
            cases e113
            replace p113:=eq_true p113
            replace q113:=eq_true q113
            go_wp2
            go_roundg k1
            case measure=>have:=HK1.out;omega
            case rel=>exact ⟨(ji3),(by first | rfl | (simp;done) | (simp only [← hji3]<;>(first | rfl | simp)) | (simp [*];done)),H',⟨by have:=HK1.out;omega⟩,by repeat (first | exact Drawn0.refl _ | apply Drawn0.step)⟩
          · rw [if_neg c6] at H
            have c6b0:((rd l0 (ji3))==0)=false:=beq_eq_false_iff_ne.mpr c6
            have c6b1:((rd l0 (ji3)) !=0)=true:=bne_iff_ne.mpr c6
            obtain rfl:=Option.some.inj H
            have p113:0≤((ji3):Int):=of_decide_eq_true (by first | (with_reducible assumption) | assumption)
            have q113:(ji3)<(l0.length:Int):=of_decide_eq_true (by first | (with_reducible assumption) | assumption)
            obtain ⟨ad113,e113,hx113_0⟩:=Kd.at_int HR0.out (ji3) p113 q113
            cases e113
            replace p113:=eq_true p113
            replace q113:=eq_true q113
            go_wp2
            go_ret
            exact ⟨by first | rfl | (simp;done) | (simp only [← hji3]<;>(first | rfl | simp)) | (simp [*];done),by repeat (first | exact Drawn0.refl _ | apply Drawn0.step)⟩
        · rw [if_neg c5] at H
          exact absurd H (by simp)
      · rw [if_neg c4] at H
        exact absurd H (by simp)
    · rw [if_neg c2] at H
      have c2b0:decide (0<x3_1)=false:=decide_eq_false c2
      clear c2
      obtain rfl:=Option.some.inj H
      go_wp2
      go_ret
      exact ⟨by first | rfl | (simp;done) | (simp [*];done),by repeat (first | exact Drawn0.refl _ | apply Drawn0.step)⟩

/-! ### nat_Trim: function 187 -/
def nat_Trim.f (k:Nat) (l0:List Int):Option (List Int):=(some (([]:List Int):List Int)).bind fun y114=>((nat_size.f k l0).bind fun t117=>(if 0≤t117 then (if t117≤(l0.length:Int) then (if y114.length+(l0.take (t117:Int).toNat).length<17592186044416 then (some (y114++(l0.take (t117:Int).toNat))) else (none)) else (none)) else (none)))
set_option maxHeartbeats 8000000 in
set_option maxRecDepth 100000 in
theorem nat_Trim.calls (k:Nat) (A0:Option Addr) (c0:Nat) (l0:List Int) (r:List Int) (w:World) (hr0:Kd.C (Kd.int .u64) w A0 l0.length l0) (hc0:l0.length≤c0) (h:nat_Trim.f k l0=some r) :
 Calls Tryz.prog 187 #[.slice A0 l0.length c0] w fun e w'=> ∃ v0_:Value,e= .returned (v0_)∧Kd.R (Kd.int .u64) 73 w' w.heap.size (fun _=>True) v0_ r∧Below w.heap.size w w':=by
 have HR0:=Aside0.mk hr0
 have HC0:=Aside0.mk hc0
 clear hr0 hc0
 have HB:=Aside0.mk (Below.refl w.heap.size w)
 have H:((some (([]:List Int):List Int)).bind fun y114=>((nat_size.f k l0).bind fun t117=>(if 0≤t117 then (if t117≤(l0.length:Int) then (if y114.length+(l0.take (t117:Int).toNat).length<17592186044416 then (some (y114++(l0.take (t117:Int).toNat))) else (none)) else (none)) else (none))))=some r:=h
 clear h
 obtain ⟨y114,hy114⟩ : ∃ y_:List Int,y_=(([]:List Int)):=⟨_,rfl⟩
 replace H:((nat_size.f k l0).bind fun t117=>(if 0≤t117 then (if t117≤(l0.length:Int) then (if y114.length+(l0.take (t117:Int).toNat).length<17592186044416 then (some (y114++(l0.take (t117:Int).toNat))) else (none)) else (none)) else (none)))=some r:=by first | (rw [hy114];with_reducible exact H) | (have H2_:=(Option.bind_some _ _).symm.trans H;rw [hy114];with_reducible exact H2_) | (have H2_:=(Option.bind_some _ _).symm.trans H;with_reducible exact H2_) | with_reducible exact H | (rw [hy114];exact H) | exact H
 have Ny114:=Aside0.mk hy114
 clear hy114
 replace H:=Option.bind_eq_some_iff.mp H
 obtain ⟨t117,A20,H⟩:=H
 replace H:(if 0≤t117 then (if t117≤(l0.length:Int) then (if y114.length+(l0.take (t117:Int).toNat).length<17592186044416 then (some (y114++(l0.take (t117:Int).toNat))) else (none)) else (none)) else (none))=some r:=H
 have A2:=Aside0.mk A20
 clear A20
 by_cases c3:0≤t117
 · rw [if_pos c3] at H
   have c3b0:=eq_true c3
   have c3b1:decide (0≤t117)=true:=decide_eq_true c3
   clear c3
   by_cases c4:t117≤(l0.length:Int)
   · rw [if_pos c4] at H
     have c4b0:=eq_true c4
     have c4b1:decide (t117≤(l0.length:Int))=true:=decide_eq_true c4
     clear c4
     by_cases c5:y114.length+(l0.take (t117:Int).toNat).length<17592186044416
     · rw [if_pos c5] at H
       have LMc5:=Aside0.mk c5
       clear c5
       obtain ⟨y119,hy119⟩ : ∃ y_:List Int,y_=(y114++(l0.take (t117:Int).toNat)):=⟨_,rfl⟩
       replace H:(some y119)=some r:=by first | (rw [hy119];with_reducible exact H) | (have H2_:=(Option.bind_some _ _).symm.trans H;rw [hy119];with_reducible exact H2_) | (have H2_:=(Option.bind_some _ _).symm.trans H;with_reducible exact H2_) | with_reducible exact H | (rw [hy119];exact H) | exact H
       have Ny119:=Aside0.mk hy119
       clear hy119
       obtain rfl:=Option.some.inj H
       go_enter Tryz.func187,Tryz.ntmps187
       go_wp2_with (first | ((with_reducible refine gate_dst (N:=3) rfl ?_);refine Kd.R_lit (Kd.int .u64) _ 73 ?hg (N:=3) ?hd (xs:=([]:List Int)) (inner:= []) (ok:=fun _=>True) (okp:=fun _=>True) ?hr ?hp (fun _ hk=>hk) trivial (Below.refl _ _) (Nat.le_refl _) (by simp) ?_;(case hd=>rfl);(case hg=>rfl);(case hr=>first | (go_simp;done) | (go_simp;rfl));(case hp=>exact (Reps.none _ _));intro v115 w6 ho7 hb hg_ hnew_;clear hg_ hnew_;(first | rw [← Ny114.out] at ho7 | (simp only [Int.reduceToNat] at ho7;rw [← Ny114.out] at ho7));have n0_:=Aside0.mk (Kd.R_lower ho7 (below_size (by repeat (first | (with_reducible first | exact HB.out | apply below_alloc | apply pw_below_drewN | apply below_drew1) | exact HB.out))));have n1_:=Aside0.mk (below_step (by repeat (first | (with_reducible first | exact HB.out | apply below_alloc | apply pw_below_drewN | apply below_drew1) | exact HB.out)) hb);clear HB;have HO116:=n0_;have HB:=n1_;clear n0_ n1_;clear hb ho7) | ((with_reducible refine gate_callee (f:=192) rfl ?_);refine goesL_ (some 6) rfl rfl Tryz.func192 (by kernel_rfl) rfl #[.slice A0 l0.length c0] rfl (by (try simp only [List.map_toArray,List.map_cons,List.map_nil]);first | done | rfl | (simp only [List.length_drop,List.length_take];rfl) | (simp only [*];done)) ?_;(with_reducible refine (nat_size.calls k _ _ l0 t117 _ ?side1 ?side2 A2.out).mono ?_);(case side1=>repeat (first | exact (Kd.C_below HR0.out HB.out) | (with_reducible refine Kd.C_alloc ?_ _) | (with_reducible refine Kd.C_drewN ?_ _) | (with_reducible refine Kd.C_drew ?_)));(case side2=>exact HC0.out);rintro e w' ⟨rfl,⟨nd,rfl⟩⟩;refine ⟨_,rfl, ?_⟩;obtain ⟨i08,hi08,_,hsz8,_⟩:=info_parts info73;obtain ⟨hcut8,hA8,hC8⟩:=print_take_of (P:=Tryz.prog) (Value.int .u64) 0 43 73 .i64 Tryz.underlying43 hi08 hsz8 A0 c0 l0 t117 (of_decide_eq_true (by first | (with_reducible assumption) | assumption)) (of_decide_eq_true (by first | (with_reducible assumption) | assumption)) HC0.out;have HR118:=Aside0.mk (Kd.C_of_reads (h1:=fun _=>rfl) (hA8 _ (Kd.reads_of_C HR0.out)));have HC118:=Aside0.mk hC8;clear hA8 hC8 hi08 hsz8) | ((with_reducible refine gate_builtin (b:= .append) (xs:= #[.tmp 3, .tmp 7]) rfl ?_);at_builtin;refine Kd.R_append_rows (Kd.int .u64) (w0:=w) w.heap.size rfl (.tmp 3) (.tmp 7) 43 73 (.int .u64 0) 8 rfl Tryz.underlying43 info73 rfl (by decide) (by omega) v115 y114 (l0.take (t117:Int).toNat) _ _ _ (fun _=>True) (fun _=>False) rfl rfl ?aO ?aR (fun _ _ h=>h) (fun _ h=>h.elim) ?aF ?aB ?aS ?aL ?_;(case aR=>first | (refine cut_rows_len (show (l0.take (t117:Int).toNat).length=t117.toNat from (by rw [List.length_take];have h_:(t117:Int)≤(l0.length:Int):=of_decide_eq_true (by first | (with_reducible assumption) | assumption);omega)) ?_;repeat (first | exact (Kd.C_below HR118.out (by repeat (first | (with_reducible first | exact HB.out | apply below_alloc | apply pw_below_drewN | apply below_drew1) | exact HB.out))) | (with_reducible refine Kd.C_alloc ?_ _) | (with_reducible refine Kd.C_drewN ?_ _) | (with_reducible refine Kd.C_drew ?_))) | (repeat (first | exact (Kd.C_below HR118.out (by repeat (first | (with_reducible first | exact HB.out | apply below_alloc | apply pw_below_drewN | apply below_drew1) | exact HB.out))) | (with_reducible refine Kd.C_alloc ?_ _) | (with_reducible refine Kd.C_drewN ?_ _) | (with_reducible refine Kd.C_drew ?_))));(case aB=>exact (by repeat (first | (with_reducible first | exact HB.out | apply below_alloc | apply pw_below_drewN | apply below_drew1) | exact HB.out)));(case aF=>exact (fun _ _=>trivial));(case aO=>exact (by (with_reducible repeat (first | apply Kd.R_alloc | apply Kd.R_drewN | apply Kd.R_drew));exact HO116.out));(case aS=>exact (below_size (by repeat (first | (with_reducible first | exact HB.out | apply below_alloc | apply pw_below_drewN | apply below_drew1) | exact HB.out))));(case aL=>have:=LMc5.out;have hlx_:=(show (l0.take (t117:Int).toNat).length=t117.toNat from (by rw [List.length_take];have h_:(t117:Int)≤(l0.length:Int):=of_decide_eq_true (by first | (with_reducible assumption) | assumption);omega));omega);intro v120 w9 ho hb hg hat;rw [← Ny119.out] at ho;have n0_:=Aside0.mk (hb);have n1_:=Aside0.mk (ho);clear HB;clear HO116;have HB:=n0_;have HO121:=n1_;clear n0_ n1_;clear ho hb hg hat))
       go_ret
       exact ⟨_,by first | rfl | (simp [errW_none,errW_some]<;>rfl) | (simp [*,errW_none,errW_some]<;>rfl),by (with_reducible repeat (first | apply Kd.R_alloc | apply Kd.R_drewN | apply Kd.R_drew));exact HO121.out,by repeat (first | (with_reducible first | exact HB.out | apply below_alloc | apply pw_below_drewN | apply below_drew1) | exact HB.out)⟩
     · rw [if_neg c5] at H
       exact absurd H (by simp)
   · rw [if_neg c4] at H
     exact absurd H (by simp)
 · rw [if_neg c3] at H
   exact absurd H (by simp)

/-! ### nat_Of: function 113 -/
def nat_Of.f (k:Nat) (a0:Int):Option (List Int):=(nat_Trim.f k (([a0]:List Int))).bind fun t352=>(some t352)

/-! ### nat_Cmp: function 153 -/
def nat_Cmp.l0:Nat→List Int→List Int→Int→Option (Int)
 | 0,_,_,_=>none
 | k+1,x0,x1,x7=>if x7≥0 then (if 0≤x7 then (if x7<(x0.length:Int) then (if x7<(x1.length:Int) then (if (rd x0 x7)<(rd x1 x7) then (some (-1)) else (if (rd x0 x7)>(rd x1 x7) then (some 1) else (nat_Cmp.l0 k x0 x1 (wrap64 (x7-1))))) else (none)) else (none)) else (none)) else (some 0)
def nat_Cmp.f (k:Nat) (l0:List Int) (l1:List Int):Option (Int):=(nat_size.f k l0).bind fun t725=>((nat_size.f k l1).bind fun t726=>(if t725=t726 then (nat_Cmp.l0 k l0 l1 (wrap64 (t725-1))) else (if t725<t726 then (some (-1)) else (some 1))))

/-! ### nat_Word: function 115 -/
def nat_Word.f (k:Nat) (l0:List Int):Option (Int × Bool):=(nat_size.f k l0).bind fun t358=>(if t358=0 then (some (0,true)) else (if t358=1 then (if 0<(l0.length:Int) then (some (rd l0 0,true)) else (none)) else (some (0,false))))

/-! ### limb_Len: function 87 -/
def limb_Len.l0:Nat→Int→Int→Int→Option (Int)
 | 0,_,_,_=>none
 | k+1,x0,x3,x4=>if x4>0 then (if 0≤x4 then (if (shr .u64 x0 x4)>0 then (limb_Len.l0 k (shr .u64 x0 x4) (wrap64 (x3+x4)) (x4/2)) else (limb_Len.l0 k x0 x3 (x4/2))) else (none)) else (some (wrap64 (x3+(wrap64 (x0)))))
def limb_Len.f (k:Nat) (a0:Int):Option (Int):=limb_Len.l0 k a0 0 32

/-! ### limb_digit: function 150 -/
mutual
def limb_digit.l0:Nat→Int→Int→Int→Int→Int→Int→Int→Option (Int × Int)
 | 0,_,_,_,_,_,_,_=>none
 | k+1,x0,x1,x2,x8,x9,x10,x11=>if x10>4294967295 then (limb_digit.j1 k x0 x1 x2 x8 x9 x10 x11 true) else (limb_digit.j1 k x0 x1 x2 x8 x9 x10 x11 (decide ((IntKind.u64.wrap (x10*x8))>(Go.bits .or .u64 (IntKind.u64.wrap (x11*4294967296)) x1))))
def limb_digit.j1:Nat→Int→Int→Int→Int→Int→Int→Int→Bool→Option (Int × Int)
 | 0,_,_,_,_,_,_,_,_=>none
 | k+1,x0,x1,x2,x8,x9,x10,x11,x33=>if x33=true then (if (IntKind.u64.wrap (x11+x9))>4294967295 then (some (IntKind.u64.wrap (x10-1),IntKind.u64.wrap ((IntKind.u64.wrap ((IntKind.u64.wrap (x0*4294967296))+x1))-(IntKind.u64.wrap ((IntKind.u64.wrap (x10-1))*x2))))) else (limb_digit.l0 k x0 x1 x2 x8 x9 (IntKind.u64.wrap (x10-1)) (IntKind.u64.wrap (x11+x9)))) else (some (x10,IntKind.u64.wrap ((IntKind.u64.wrap ((IntKind.u64.wrap (x0*4294967296))+x1))-(IntKind.u64.wrap (x10*x2)))))
end
def limb_digit.f (k:Nat) (a0:Int) (a1:Int) (a2:Int):Option (Int × Int):=if (a2/4294967296)=0 then (none) else (limb_digit.l0 k a0 a1 a2 (Go.bits .and .u64 a2 4294967295) (a2/4294967296) (IntKind.u64.wrap (Int.tdiv a0 (a2/4294967296))) (Int.tmod a0 (a2/4294967296)))

/-! ### limb_Div: function 122 -/
def limb_Div.f (k:Nat) (a0:Int) (a1:Int) (a2:Int):Option (Int × Int × Bool):=if a0≥a2 then (some (0,0,false)) else ((limb_Len.f k a2).bind fun t731=>(if 0≤(wrap64 (64-t731)) then (if 0≤(wrap64 (63-(wrap64 (64-t731)))) then ((limb_digit.f k (Go.bits .or .u64 (shl .u64 a0 (wrap64 (64-t731))) (shr .u64 (a1/2) (wrap64 (63-(wrap64 (64-t731)))))) ((shl .u64 a1 (wrap64 (64-t731)))/4294967296) (shl .u64 a2 (wrap64 (64-t731)))).bind fun bt732=>((limb_digit.f k bt732.2 (Go.bits .and .u64 (shl .u64 a1 (wrap64 (64-t731))) 4294967295) (shl .u64 a2 (wrap64 (64-t731)))).bind fun bt734=>(some (Go.bits .or .u64 (IntKind.u64.wrap (bt732.1*4294967296)) bt734.1,shr .u64 bt734.2 (wrap64 (64-t731)),true)))) else (none)) else (none)))

/-! ### quot_Word: function 154 -/
def quot_Word.l0:Nat→List Int→Int→List Int→Int→Int→Option (List Int × Int × Bool)
 | 0,_,_,_,_,_=>none
 | k+1,x0,x1,x7,x8,x9=>if x9≥0 then (if 0≤x9 then (if x9<(x0.length:Int) then ((limb_Div.f k x8 (rd x0 x9) x1).bind fun bt740=>(if x9<(x7.length:Int) then (quot_Word.l0 k x0 x1 (x7.set (x9:Int).toNat bt740.1) bt740.2.1 (wrap64 (x9-1))) else (none))) else (none)) else (none)) else ((nat_Trim.f k x7).bind fun t744=>(some (t744,x8,true)))
def quot_Word.f (k:Nat) (l0:List Int) (a1:Int):Option (List Int × Int × Bool):=if a1=0 then (some (([]:List Int),0,false)) else (if 0≤(l0.length:Int) then (if ((l0.length:Int):Int).toNat≤35184372088832 then (quot_Word.l0 k l0 a1 (List.replicate ((l0.length:Int):Int).toNat 0) 0 (wrap64 ((l0.length:Int)-1))) else (none)) else (none))

/-! ### nat_Shl: function 210 -/
def nat_Shl.l0:Nat→Int→List Int→Int→List Int→Int→Int→Option (List Int)
 | 0,_,_,_,_,_,_=>none
 | k+1,x6,x7,x8,x25,x26,x27=>if x27<x26 then (if 0≤x27 then (if x27<(x25.length:Int) then (if x7.length<17592186044416 then (nat_Shl.l0 k x6 (x7++ [Go.bits .or .u64 (IntKind.u64.wrap ((rd x25 x27)*2^x6.toNat)) x8]) (((rd x25 x27)/2)/2^(63-x6).toNat) x25 x26 (wrap64 (x27+1))) else (none)) else (none)) else (none)) else (if x7.length<17592186044416 then ((nat_Trim.f k (x7++ [x8])).bind fun t163=>(some t163)) else (none))
def nat_Shl.f (k:Nat) (l0:List Int) (a1:Int):Option (List Int):=if ((mn (mx a1 0) 65536)/64)≥0 then (if ((mn (mx a1 0) 65536)/64)≤(wrap64 ((wrap64 (((mn (mx a1 0) 65536)/64)+(l0.length:Int)))+1)) then (if (wrap64 ((wrap64 (((mn (mx a1 0) 65536)/64)+(l0.length:Int)))+1):Int).toNat≤35184372088832 then (nat_Shl.l0 k ((mn (mx a1 0) 65536)%64) (List.replicate ((mn (mx a1 0) 65536)/64:Int).toNat 0) 0 l0 (l0.length:Int) 0) else (none)) else (none)) else (none)
set_option maxHeartbeats 8000000 in
set_option maxRecDepth 100000 in
theorem nat_Shl.calls (k:Nat) (A0:Option Addr) (c0:Nat) (l0:List Int) (a1:Int) (r:List Int) (w:World) (hr0:Kd.C (Kd.int .u64) w A0 l0.length l0) (hc0:l0.length≤c0) (h:nat_Shl.f k l0 a1=some r) :
 Calls Tryz.prog 210 #[.slice A0 l0.length c0, .int .i64 a1] w fun e w'=> ∃ v0_:Value,e= .returned (v0_)∧Kd.R (Kd.int .u64) 73 w' w.heap.size (fun _=>True) v0_ r∧Below w.heap.size w w':=by
 have HR0:=Aside0.mk hr0
 have HC0:=Aside0.mk hc0
 clear hr0 hc0
 have HB:=Aside0.mk (Below.refl w.heap.size w)
 have H:(if ((mn (mx a1 0) 65536)/64)≥0 then (if ((mn (mx a1 0) 65536)/64)≤(wrap64 ((wrap64 (((mn (mx a1 0) 65536)/64)+(l0.length:Int)))+1)) then (if (wrap64 ((wrap64 (((mn (mx a1 0) 65536)/64)+(l0.length:Int)))+1):Int).toNat≤35184372088832 then (nat_Shl.l0 k ((mn (mx a1 0) 65536)%64) (List.replicate ((mn (mx a1 0) 65536)/64:Int).toNat 0) 0 l0 (l0.length:Int) 0) else (none)) else (none)) else (none))=some r:=h
 clear h
 obtain ⟨ji3,hji3⟩ : ∃ j_:Int,(mx a1 0)=j_:=⟨_,rfl⟩
 replace H:(if ((mn (ji3) 65536)/64)≥0 then (if ((mn (ji3) 65536)/64)≤(wrap64 ((wrap64 (((mn (ji3) 65536)/64)+(l0.length:Int)))+1)) then (if (wrap64 ((wrap64 (((mn (ji3) 65536)/64)+(l0.length:Int)))+1):Int).toNat≤35184372088832 then (nat_Shl.l0 k ((mn (ji3) 65536)%64) (List.replicate ((mn (ji3) 65536)/64:Int).toNat 0) 0 l0 (l0.length:Int) 0) else (none)) else (none)) else (none))=some r:=by first | (rw [hji3] at H;exact H) | (simp only [hji3] at H ⊢;exact H)
 (try (have hji3l:0≤ji3:=by (rw [← hji3];unfold mx;(repeat' split)<;>omega)))
 (try (have hji3m:0≤ji3:=by omega))
 (try (have hji3t : ∀ m_:Int,Int.tdiv ji3 m_=ji3/m_:=fun m_=>Int.tdiv_eq_ediv_of_nonneg (by omega)))
 have hji3_:(if a1<0 then 0 else a1)=ji3:=hji3
 obtain ⟨ji4,hji4⟩ : ∃ j_:Int,(mn (ji3) 65536)=j_:=⟨_,rfl⟩
 replace H:(if ((ji4)/64)≥0 then (if ((ji4)/64)≤(wrap64 ((wrap64 (((ji4)/64)+(l0.length:Int)))+1)) then (if (wrap64 ((wrap64 (((ji4)/64)+(l0.length:Int)))+1):Int).toNat≤35184372088832 then (nat_Shl.l0 k ((ji4)%64) (List.replicate ((ji4)/64:Int).toNat 0) 0 l0 (l0.length:Int) 0) else (none)) else (none)) else (none))=some r:=by first | (rw [hji4] at H;exact H) | (simp only [hji4] at H ⊢;exact H)
 have hji4_:(if 65536<(ji3) then 65536 else (ji3))=ji4:=hji4
 by_cases c5:((ji4)/64)≥0
 · rw [if_pos c5] at H
   have c5b0:=eq_true c5
   have c5b1:decide (((ji4)/64)≥0)=true:=decide_eq_true c5
   clear c5
   by_cases c6:((ji4)/64)≤(wrap64 ((wrap64 (((ji4)/64)+(l0.length:Int)))+1))
   · rw [if_pos c6] at H
     have c6b0:=eq_true c6
     have c6b1:decide (((ji4)/64)≤(wrap64 ((wrap64 (((ji4)/64)+(l0.length:Int)))+1)))=true:=decide_eq_true c6
     by_cases c7:(wrap64 ((wrap64 (((ji4)/64)+(l0.length:Int)))+1):Int).toNat≤35184372088832
     · rw [if_pos c7] at H
       have c7b0:=eq_true c7
       have c7b1:decide ((wrap64 ((wrap64 (((ji4)/64)+(l0.length:Int)))+1):Int).toNat≤35184372088832)=true:=decide_eq_true c7
       obtain ⟨y153,hy153⟩ : ∃ y_:List Int,y_=(List.replicate ((ji4)/64:Int).toNat 0):=⟨_,rfl⟩
       replace H:(nat_Shl.l0 k ((ji4)%64) y153 0 l0 (l0.length:Int) 0)=some r:=by first | (rw [hy153];with_reducible exact H) | (have H2_:=(Option.bind_some _ _).symm.trans H;rw [hy153];with_reducible exact H2_) | (have H2_:=(Option.bind_some _ _).symm.trans H;with_reducible exact H2_) | with_reducible exact H | (rw [hy153];exact H) | exact H
       have Ny153:=Aside0.mk hy153
       clear hy153
       have H':=Aside0.mk H
       clear H
       go_enter Tryz.func210,Tryz.ntmps210
       go_wp2_with (first | ((with_reducible refine gate_dst (N:=24) rfl ?_);refine Kd.R_makecap (Kd.int .u64) _ 73 rfl (N:=24) rfl 43 _ _ rfl ((ji4)/64) (wrap64 ((wrap64 (((ji4)/64)+(l0.length:Int)))+1)) rfl rfl Tryz.underlying43 (.int .u64 0) 8 info73 rfl (by decide) (by omega) 0 (ok:=fun _=>True) (okp:=fun _=>True) rfl (fun _ hk=>hk) trivial (of_decide_eq_true (by first | (with_reducible assumption) | assumption)) (of_decide_eq_true (by first | (with_reducible assumption) | assumption)) (Nat.le_trans (Nat.mul_le_mul_right _ (of_decide_eq_true (by first | (with_reducible assumption) | assumption):(wrap64 ((wrap64 (((ji4)/64)+(l0.length:Int)))+1):Int).toNat≤35184372088832)) (by omega)) (Below.refl _ _) (Nat.le_refl _) ?_;intro v154 w8 ho9 hb hg_ hnew_;clear hg_ hnew_;(first | rw [← Ny153.out] at ho9 | (simp only [Int.reduceToNat] at ho9;rw [← Ny153.out] at ho9));have n0_:=Aside0.mk (Kd.R_lower ho9 (below_size (by repeat (first | (with_reducible first | exact HB.out | apply below_alloc | apply pw_below_drewN | apply below_drew1) | exact HB.out))));have n1_:=Aside0.mk (below_step (by repeat (first | (with_reducible first | exact HB.out | apply below_alloc | apply pw_below_drewN | apply below_drew1) | exact HB.out)) hb);clear HB;have HO155:=n0_;have HB:=n1_;clear n0_ n1_;clear hb ho9))
       go_loopg [7,8,27] k (fun kq v7 v8 v27 w'=> ∃ (x7_1:List Int) (x8_1:Int) (x27_1:Int),v8= .int .u64 x8_1∧v27= .int .i64 x27_1∧Aside0 (nat_Shl.l0 kq ((ji4)%64) x7_1 x8_1 l0 (l0.length:Int) x27_1=some r)∧Aside0 (kq≤k)∧Aside0 (Kd.R (Kd.int .u64) 73 w' w.heap.size (fun _=>True) v7 x7_1)∧Aside0 (Below w.heap.size w w'))
       case atStart=>exact ⟨(y153),(0),(0),(by first | rfl | (simp;done) | (simp [*];done)),(by first | rfl | (simp;done) | (simp [*];done)),H',⟨Nat.le_refl _⟩,⟨by (with_reducible repeat (first | apply Kd.R_alloc | apply Kd.R_drewN | apply Kd.R_drew));exact HO155.out⟩,⟨by repeat (first | (with_reducible first | exact HB.out | apply below_alloc | apply pw_below_drewN | apply below_drew1) | exact HB.out)⟩⟩
       case round =>
        clear H'
        try clear c2
        try clear p2
        try clear c5
        try clear c5b0
        try clear c5b1
        try clear c6
        try clear c6b0
        try clear c6b1
        try clear p6
        try clear c7
        try clear c7b0
        try clear c7b1
        obtain ⟨x7_1,x8_1,x27_1,rfl,rfl,HA,HK1,HO_7,HB⟩:=hrel
        cases gk with
        | zero=>exact absurd HA.out (by simp [nat_Shl.l0])
        | succ k1 =>
          have H:=HA.out
          clear HA
          simp only [nat_Shl.l0] at H
          by_cases c10:x27_1<(l0.length:Int)
          · rw [if_pos c10] at H
            have c10b0:decide (x27_1<(l0.length:Int))=true:=decide_eq_true c10
            clear c10
            by_cases c11:0≤x27_1
            · rw [if_pos c11] at H
              have c11b0:decide (0≤x27_1)=true:=decide_eq_true c11
              clear c11
              by_cases c12:x27_1<(l0.length:Int)
              · rw [if_pos c12] at H
                have c12b0:decide (x27_1<(l0.length:Int))=true:=decide_eq_true c12
                clear c12
                (try (have c13m:min (((ji4)%64):Int).toNat 64=(((ji4)%64):Int).toNat:=by omega))
                by_cases c14:x7_1.length<17592186044416
                · rw [if_pos c14] at H
                  have LMc14:=Aside0.mk c14
                  clear c14
                  obtain ⟨y157,hy157⟩ : ∃ y_:List Int,y_=(x7_1++ [Go.bits .or .u64 (IntKind.u64.wrap ((rd l0 x27_1)*2^((ji4)%64).toNat)) x8_1]):=⟨_,rfl⟩
                  replace H:(nat_Shl.l0 k1 ((ji4)%64) y157 (((rd l0 x27_1)/2)/2^(63-((ji4)%64)).toNat) l0 (l0.length:Int) (wrap64 (x27_1+1)))=some r:=by first | (rw [hy157];with_reducible exact H) | (have H2_:=(Option.bind_some _ _).symm.trans H;rw [hy157];with_reducible exact H2_) | (have H2_:=(Option.bind_some _ _).symm.trans H;with_reducible exact H2_) | with_reducible exact H | (rw [hy157];exact H) | exact H
                  have Ny157:=Aside0.mk hy157
                  clear hy157
                  (try (have c15m:min ((63-((ji4)%64)):Int).toNat 64=((63-((ji4)%64)):Int).toNat:=by omega))
                  have H':=Aside0.mk H
                  clear H
                  have p156:0≤(x27_1:Int):=of_decide_eq_true (by first | (with_reducible assumption) | assumption)
                  have q156:x27_1<(l0.length:Int):=of_decide_eq_true (by first | (with_reducible assumption) | assumption)
                  obtain ⟨ad156,e156,hx156_0⟩:=Kd.at_int HR0.out x27_1 p156 q156
                  cases e156
                  replace hx156_0:=(HB.out.cell (World.block_lt_of_cell? w _ hx156_0)).trans hx156_0
                  replace p156:=eq_true p156
                  replace q156:=eq_true q156
                  go_wp2_with (first | ((with_reducible refine gate_builtin (b:= .append) (xs:= #[.tmp 31, .tmp 37]) rfl ?_);at_builtin;refine Kd.R_append (Kd.int .u64) (w0:=w) w.heap.size rfl (.tmp 31) (.tmp 37) 43 73 (.int .u64 0) 8 rfl Tryz.underlying43 info73 rfl (by decide) (by omega) u7 x7_1 (Go.bits .or .u64 (IntKind.u64.wrap ((rd l0 x27_1)*2^((ji4)%64).toNat)) x8_1) [.int .u64 (Go.bits .or .u64 (IntKind.u64.wrap ((rd l0 x27_1)*2^((ji4)%64).toNat)) x8_1)] (fun _=>True) (fun _=>False) rfl rfl ?aP (fun _ hk=>hk.elim) ?aF ?aO ?aB ?aS ?aL ?_;(case aP=>exact rfl);(case aB=>exact (by repeat (first | (with_reducible first | exact HB.out | apply below_alloc | apply pw_below_drewN | apply below_drew1) | exact HB.out)));(case aF=>exact (fun _ _=>trivial));(case aO=>exact (by (with_reducible repeat (first | apply Kd.R_alloc | apply Kd.R_drewN | apply Kd.R_drew));exact HO_7.out));(case aS=>exact (below_size (by repeat (first | (with_reducible first | exact HB.out | apply below_alloc | apply pw_below_drewN | apply below_drew1) | exact HB.out))));(case aL=>have:=LMc14.out;omega);intro v158 w16 ho hb hg hat;rw [← Ny157.out] at ho;have n0_:=Aside0.mk (hb);have n1_:=Aside0.mk (ho);clear HB;clear HO_7;have HB:=n0_;have HO159:=n1_;clear n0_ n1_;clear ho hb hg hat))
                  go_roundg k1
                  case measure=>have:=HK1.out;omega
                  case rel=>exact ⟨(y157),(((rd l0 x27_1)/2)/2^(63-((ji4)%64)).toNat),(wrap64 (x27_1+1)),(by first | rfl | (simp;done) | (simp only [← hji4]<;>(first | rfl | simp)) | (simp [*];done)),(by first | rfl | (simp;done) | (simp [*];done)),H',⟨by have:=HK1.out;omega⟩,⟨by (with_reducible repeat (first | apply Kd.R_alloc | apply Kd.R_drewN | apply Kd.R_drew));exact HO159.out⟩,⟨by repeat (first | (with_reducible first | exact HB.out | apply below_alloc | apply pw_below_drewN | apply below_drew1) | exact HB.out)⟩⟩
                · rw [if_neg c14] at H
                  exact absurd H (by simp)
              · rw [if_neg c12] at H
                exact absurd H (by simp)
            · rw [if_neg c11] at H
              exact absurd H (by simp)
          · rw [if_neg c10] at H
            have c10b0:decide (x27_1<(l0.length:Int))=false:=decide_eq_false c10
            clear c10
            by_cases c17:x7_1.length<17592186044416
            · rw [if_pos c17] at H
              have LMc17:=Aside0.mk c17
              clear c17
              obtain ⟨y160,hy160⟩ : ∃ y_:List Int,y_=(x7_1++ [x8_1]):=⟨_,rfl⟩
              replace H:((nat_Trim.f k1 y160).bind fun t163=>(some t163))=some r:=by first | (rw [hy160];with_reducible exact H) | (have H2_:=(Option.bind_some _ _).symm.trans H;rw [hy160];with_reducible exact H2_) | (have H2_:=(Option.bind_some _ _).symm.trans H;with_reducible exact H2_) | with_reducible exact H | (rw [hy160];exact H) | exact H
              have Ny160:=Aside0.mk hy160
              clear hy160
              replace H:=Option.bind_eq_some_iff.mp H
              obtain ⟨t163,A180,H⟩:=H
              replace H:(some t163)=some r:=H
              have A18:=Aside0.mk A180
              clear A180
              obtain rfl:=Option.some.inj H
              go_wp2_with (first | ((with_reducible refine gate_builtin (b:= .append) (xs:= #[.tmp 45, .tmp 47]) rfl ?_);at_builtin;refine Kd.R_append (Kd.int .u64) (w0:=w) w.heap.size rfl (.tmp 45) (.tmp 47) 43 73 (.int .u64 0) 8 rfl Tryz.underlying43 info73 rfl (by decide) (by omega) u7 x7_1 x8_1 [.int .u64 x8_1] (fun _=>True) (fun _=>False) rfl rfl ?aP (fun _ hk=>hk.elim) ?aF ?aO ?aB ?aS ?aL ?_;(case aP=>exact rfl);(case aB=>exact (by repeat (first | (with_reducible first | exact HB.out | apply below_alloc | apply pw_below_drewN | apply below_drew1) | exact HB.out)));(case aF=>exact (fun _ _=>trivial));(case aO=>exact (by (with_reducible repeat (first | apply Kd.R_alloc | apply Kd.R_drewN | apply Kd.R_drew));exact HO_7.out));(case aS=>exact (below_size (by repeat (first | (with_reducible first | exact HB.out | apply below_alloc | apply pw_below_drewN | apply below_drew1) | exact HB.out))));(case aL=>have:=LMc17.out;omega);intro v161 w19 ho hb hg hat;rw [← Ny160.out] at ho;have n0_:=Aside0.mk (hb);have n1_:=Aside0.mk (ho);clear HB;clear HO_7;have HB:=n0_;have HO162:=n1_;clear n0_ n1_;clear ho hb hg hat;obtain ⟨Ao20,co20,eo20⟩:=Kd.R_slice HO162.out;subst eo20) | ((with_reducible refine gate_callee (f:=187) rfl ?_);refine goesL_ (some 49) rfl rfl Tryz.func187 (by kernel_rfl) rfl #[.slice Ao20 y160.length co20] rfl (by (try simp only [List.map_toArray,List.map_cons,List.map_nil]);first | done | rfl | (simp only [List.length_drop,List.length_take];rfl) | (simp only [*];done)) ?_;(with_reducible refine (nat_Trim.calls k1 _ _ y160 t163 _ ?side1 ?side2 A18.out).mono ?_);(case side1=>repeat (first | exact (Kd.R_reads' HO162.out).2.2 | (with_reducible refine Kd.C_alloc ?_ _) | (with_reducible refine Kd.C_drewN ?_ _) | (with_reducible refine Kd.C_drew ?_)));(case side2=>exact (Kd.R_reads' HO162.out).2.1);rintro e w21 ⟨v164,rfl,ho0,hb⟩;refine ⟨_,rfl, ?_⟩;have n0_:=Aside0.mk (Kd.R_elder' (by (with_reducible repeat (first | apply Kd.R_alloc | apply Kd.R_drewN | apply Kd.R_drew));exact HO162.out) (Kd.R_base ho0) hb);have n1_:=Aside0.mk (Kd.R_lower (Kd.R_new' ho0 (Kd.R_lt (by (with_reducible repeat (first | apply Kd.R_alloc | apply Kd.R_drewN | apply Kd.R_drew));exact HO162.out))) (below_size (by repeat (first | (with_reducible first | exact HB.out | apply below_alloc | apply pw_below_drewN | apply below_drew1) | exact HB.out))));have n2_:=Aside0.mk (below_step (by repeat (first | (with_reducible first | exact HB.out | apply below_alloc | apply pw_below_drewN | apply below_drew1) | exact HB.out)) hb);clear HO162;clear HB;have HO162:=n0_;have HO165:=n1_;have HB:=n2_;clear n0_ n1_ n2_;(try clear hb);(try clear hb2);(try clear hk);(try clear hi);(try clear ho0)))
              go_ret
              exact ⟨_,by first | rfl | (simp [errW_none,errW_some]<;>rfl) | (simp only [← hji3,← hji4];first | rfl | (simp [errW_none,errW_some]<;>rfl)) | (simp [*,errW_none,errW_some]<;>rfl),by (with_reducible repeat (first | apply Kd.R_alloc | apply Kd.R_drewN | apply Kd.R_drew));exact Kd.R_mono HO165.out (fun _ hk=>trivial),by repeat (first | (with_reducible first | exact HB.out | apply below_alloc | apply pw_below_drewN | apply below_drew1) | exact HB.out)⟩
            · rw [if_neg c17] at H
              exact absurd H (by simp)
     · rw [if_neg c7] at H
       exact absurd H (by simp)
   · rw [if_neg c6] at H
     exact absurd H (by simp)
 · rw [if_neg c5] at H
   exact absurd H (by simp)

/-! ### nat_Bits: function 114 -/
def nat_Bits.f (k:Nat) (l0:List Int):Option (Int):=(nat_size.f k l0).bind fun t355=>(if t355=0 then (some 0) else (if 0≤(wrap64 (t355-1)) then (if (wrap64 (t355-1))<(l0.length:Int) then ((limb_Len.f k (rd l0 (wrap64 (t355-1)))).bind fun t357=>(some (wrap64 ((wrap64 (64*(wrap64 (t355-1))))+t357)))) else (none)) else (none)))

/-! ### nat_Shr: function 116 -/
def nat_Shr.l0:Nat→List Int→Int→List Int→Int→Option (List Int)
 | 0,_,_,_,_=>none
 | k+1,x0,x6,x7,x8=>if x8<(x0.length:Int) then (if (wrap64 (x8+1))<(x0.length:Int) then (if 0≤(wrap64 (x8+1)) then (if 0≤x8 then (if x7.length<17592186044416 then (nat_Shr.l0 k x0 x6 (x7++ [Go.bits .or .u64 ((rd x0 x8)/2^x6.toNat) (IntKind.u64.wrap ((IntKind.u64.wrap ((rd x0 (wrap64 (x8+1)))*2))*2^(63-x6).toNat))]) (wrap64 (x8+1))) else (none)) else (none)) else (none)) else (if 0≤x8 then (if x7.length<17592186044416 then (nat_Shr.l0 k x0 x6 (x7++ [Go.bits .or .u64 ((rd x0 x8)/2^x6.toNat) 0]) (wrap64 (x8+1))) else (none)) else (none))) else ((nat_Trim.f k x7).bind fun t372=>(some t372))
def nat_Shr.f (k:Nat) (l0:List Int) (a1:Int):Option (List Int):=if (wrap64 ((mx a1 0)/64))≥(l0.length:Int) then (some ([]:List Int)) else (if 0≤(wrap64 ((l0.length:Int)-(wrap64 ((mx a1 0)/64)))) then (if (wrap64 ((l0.length:Int)-(wrap64 ((mx a1 0)/64))):Int).toNat≤35184372088832 then (nat_Shr.l0 k l0 ((mx a1 0)%64) (List.replicate 0 0) (wrap64 ((mx a1 0)/64))) else (none)) else (none))

/-! ### limb_Mul: function 120 -/
def limb_Mul.f (a0:Int) (a1:Int):Option (Int × Int):=some (IntKind.u64.wrap ((IntKind.u64.wrap ((IntKind.u64.wrap ((a0/4294967296)*(a1/4294967296)))+((IntKind.u64.wrap ((IntKind.u64.wrap ((Go.bits .and .u64 a0 4294967295)*(a1/4294967296)))+((IntKind.u64.wrap ((Go.bits .and .u64 a0 4294967295)*(Go.bits .and .u64 a1 4294967295)))/4294967296)))/4294967296)))+((IntKind.u64.wrap ((IntKind.u64.wrap ((a0/4294967296)*(Go.bits .and .u64 a1 4294967295)))+(Go.bits .and .u64 (IntKind.u64.wrap ((IntKind.u64.wrap ((Go.bits .and .u64 a0 4294967295)*(a1/4294967296)))+((IntKind.u64.wrap ((Go.bits .and .u64 a0 4294967295)*(Go.bits .and .u64 a1 4294967295)))/4294967296))) 4294967295)))/4294967296)),Go.bits .or .u64 (IntKind.u64.wrap ((IntKind.u64.wrap ((IntKind.u64.wrap ((a0/4294967296)*(Go.bits .and .u64 a1 4294967295)))+(Go.bits .and .u64 (IntKind.u64.wrap ((IntKind.u64.wrap ((Go.bits .and .u64 a0 4294967295)*(a1/4294967296)))+((IntKind.u64.wrap ((Go.bits .and .u64 a0 4294967295)*(Go.bits .and .u64 a1 4294967295)))/4294967296))) 4294967295)))*4294967296)) (Go.bits .and .u64 (IntKind.u64.wrap ((Go.bits .and .u64 a0 4294967295)*(Go.bits .and .u64 a1 4294967295))) 4294967295))

/-! ### limb_Sub: function 163 -/
def limb_Sub.f (a0:Int) (a1:Int) (a2:Int):Option (Int × Int):=if a0<a1 then (if (IntKind.u64.wrap (a0-a1))<a2 then (some (IntKind.u64.wrap ((IntKind.u64.wrap (a0-a1))-a2),(0+1)+1)) else (some (IntKind.u64.wrap ((IntKind.u64.wrap (a0-a1))-a2),0+1))) else (if (IntKind.u64.wrap (a0-a1))<a2 then (some (IntKind.u64.wrap ((IntKind.u64.wrap (a0-a1))-a2),0+1)) else (some (IntKind.u64.wrap ((IntKind.u64.wrap (a0-a1))-a2),0)))

/-! ### quot_correct: function 162 -/
def quot_correct.l0:Nat→Int→Int→Int→Int→Int→Int→Option (Int)
 | 0,_,_,_,_,_,_=>none
 | k+1,x0,x1,x2,x3,x4,x5=>(limb_Mul.f x0 x4).bind fun bt747=>((limb_Sub.f x2 bt747.2 0).bind fun bt749=>((limb_Sub.f x1 bt747.1 bt749.2).bind fun bt751=>((limb_Mul.f x0 x5).bind fun bt753=>(if bt751.1=0 then (if bt753.1<bt749.1 then (some x0) else (if bt753.1=bt749.1 then (if bt753.2≤x3 then (some x0) else (quot_correct.l0 k (IntKind.u64.wrap (x0-1)) x1 x2 x3 x4 x5)) else (quot_correct.l0 k (IntKind.u64.wrap (x0-1)) x1 x2 x3 x4 x5))) else (some x0)))))
def quot_correct.f (k:Nat) (a0:Int) (a1:Int) (a2:Int) (a3:Int) (a4:Int) (a5:Int):Option (Int):=quot_correct.l0 k a0 a1 a2 a3 a4 a5

/-! ### quot_guess: function 158 -/
def quot_guess.f (k:Nat) (l0:List Int) (a1:Int) (a2:Int) (a3:Int):Option (Int):=if 0≤a1 then (if a1<(l0.length:Int) then (if 0≤(wrap64 (a1-1)) then (if (wrap64 (a1-1))<(l0.length:Int) then (if 0≤(wrap64 (a1-2)) then (if (wrap64 (a1-2))<(l0.length:Int) then (if (rd l0 a1)≥a2 then ((quot_correct.f k 18446744073709551615 (rd l0 a1) (rd l0 (wrap64 (a1-1))) (rd l0 (wrap64 (a1-2))) a2 a3).bind fun t758=>(some t758)) else ((limb_Div.f k (rd l0 a1) (rd l0 (wrap64 (a1-1))) a2).bind fun bt759=>((quot_correct.f k bt759.1 (rd l0 a1) (rd l0 (wrap64 (a1-1))) (rd l0 (wrap64 (a1-2))) a2 a3).bind fun t762=>(some t762)))) else (none)) else (none)) else (none)) else (none)) else (none)) else (none)

/-! ### limb_Add: function 147 -/
def limb_Add.f (a0:Int) (a1:Int) (a2:Int):Option (Int × Int):=if (IntKind.u64.wrap (a0+a1))<a0 then (if (IntKind.u64.wrap ((IntKind.u64.wrap (a0+a1))+a2))<(IntKind.u64.wrap (a0+a1)) then (some (IntKind.u64.wrap ((IntKind.u64.wrap (a0+a1))+a2),(0+1)+1)) else (some (IntKind.u64.wrap ((IntKind.u64.wrap (a0+a1))+a2),0+1))) else (if (IntKind.u64.wrap ((IntKind.u64.wrap (a0+a1))+a2))<(IntKind.u64.wrap (a0+a1)) then (some (IntKind.u64.wrap ((IntKind.u64.wrap (a0+a1))+a2),0+1)) else (some (IntKind.u64.wrap ((IntKind.u64.wrap (a0+a1))+a2),0)))

/-! ### quot_take: function 159 -/
def quot_take.l0:Nat→List Int→List Int→Int→Int→Int→Int→List Int→Int→Int→Option (Bool × List Int)
 | 0,_,_,_,_,_,_,_,_,_=>none
 | k+1,x0,x1,x2,x3,x9,x10,x20,x21,x22=>if x22<x21 then (if 0≤x22 then (if x22<(x20.length:Int) then ((limb_Mul.f (rd x20 x22) x3).bind fun bt764=>((limb_Add.f bt764.2 x9 0).bind fun bt766=>(if 0≤(wrap64 (x2+x22)) then (if (wrap64 (x2+x22))<(x0.length:Int) then ((limb_Sub.f (rd x0 (wrap64 (x2+x22))) bt766.1 x10).bind fun bt769=>(quot_take.l0 k (x0.set ((wrap64 (x2+x22)):Int).toNat bt769.1) x1 x2 x3 (IntKind.u64.wrap (bt764.1+bt766.2)) bt769.2 x20 x21 (wrap64 (x22+1)))) else (none)) else (none)))) else (none)) else (none)) else (if 0≤(wrap64 (x2+(x1.length:Int))) then (if (wrap64 (x2+(x1.length:Int)))<(x0.length:Int) then ((limb_Sub.f (rd x0 (wrap64 (x2+(x1.length:Int)))) x9 x10).bind fun bt773=>(some ((bt773.2 !=0),(x0.set ((wrap64 (x2+(x1.length:Int))):Int).toNat bt773.1)))) else (none)) else (none))
def quot_take.f (k:Nat) (l0:List Int) (l1:List Int) (a2:Int) (a3:Int):Option (Bool × List Int):=quot_take.l0 k l0 l1 a2 a3 0 0 l1 (l1.length:Int) 0

/-! ### quot_back: function 160 -/
def quot_back.l0:Nat→List Int→List Int→Int→Int→List Int→Int→Int→Option (List Int)
 | 0,_,_,_,_,_,_,_=>none
 | k+1,x0,x1,x2,x6,x11,x12,x13=>if x13<x12 then (if 0≤x13 then (if x13<(x11.length:Int) then (if 0≤(wrap64 (x2+x13)) then (if (wrap64 (x2+x13))<(x0.length:Int) then ((limb_Add.f (rd x0 (wrap64 (x2+x13))) (rd x11 x13) x6).bind fun bt778=>(quot_back.l0 k (x0.set ((wrap64 (x2+x13)):Int).toNat bt778.1) x1 x2 bt778.2 x11 x12 (wrap64 (x13+1)))) else (none)) else (none)) else (none)) else (none)) else (if 0≤(wrap64 (x2+(x1.length:Int))) then (if (wrap64 (x2+(x1.length:Int)))<(x0.length:Int) then (some (x0.set ((wrap64 (x2+(x1.length:Int))):Int).toNat (IntKind.u64.wrap ((rd x0 (wrap64 (x2+(x1.length:Int))))+x6)))) else (none)) else (none))
def quot_back.f (k:Nat) (l0:List Int) (l1:List Int) (a2:Int):Option (List Int):=quot_back.l0 k l0 l1 a2 0 l1 (l1.length:Int) 0

/-! ### quot_long: function 155 -/
mutual
def quot_long.l0:Nat→List Int→Int→List Int→List Int→Option (List Int × List Int)
 | 0,_,_,_,_=>none
 | k+1,x0,x6,x7,x8=>if (x8.length:Int)<(wrap64 ((x0.length:Int)+1)) then (if x8.length<17592186044416 then (quot_long.l0 k x0 x6 x7 (x8++ [0])) else (none)) else (if 0≤(wrap64 ((x8.length:Int)-(x7.length:Int))) then (if (wrap64 ((x8.length:Int)-(x7.length:Int)):Int).toNat≤35184372088832 then ((some (List.replicate (wrap64 ((x8.length:Int)-(x7.length:Int)):Int).toNat 0:List Int)).bind fun y793=>(quot_long.l1 k x6 x7 x8 (x7.length:Int) y793 (wrap64 ((y793.length:Int)-1)))) else (none)) else (none))
def quot_long.l1:Nat→Int→List Int→List Int→Int→List Int→Int→Option (List Int × List Int)
 | 0,_,_,_,_,_,_=>none
 | k+1,x6,x7,x8,x9,x10,x11=>if x11≥0 then (if 0≤(wrap64 (x9-1)) then (if (wrap64 (x9-1))<(x7.length:Int) then (if 0≤(wrap64 (x9-2)) then (if (wrap64 (x9-2))<(x7.length:Int) then ((quot_guess.f k x8 (wrap64 (x11+x9)) (rd x7 (wrap64 (x9-1))) (rd x7 (wrap64 (x9-2)))).bind fun t804=>((quot_take.f k x8 x7 x11 t804).bind fun bt805=>(if bt805.1=true then ((quot_back.f k bt805.2 x7 x11).bind fun t807=>(if 0≤x11 then (if x11<(x10.length:Int) then (quot_long.l1 k x6 x7 t807 x9 (x10.set (x11:Int).toNat (IntKind.u64.wrap (t804-1))) (wrap64 (x11-1))) else (none)) else (none))) else (if 0≤x11 then (if x11<(x10.length:Int) then (quot_long.l1 k x6 x7 bt805.2 x9 (x10.set (x11:Int).toNat t804) (wrap64 (x11-1))) else (none)) else (none))))) else (none)) else (none)) else (none)) else (none)) else ((nat_Trim.f k x10).bind fun t796=>((nat_Shr.f k x8 x6).bind fun t799=>(some (t796,t799))))
end
def quot_long.f (k:Nat) (l0:List Int) (l1:List Int):Option (List Int × List Int):=(nat_Bits.f k l1).bind fun t783=>((nat_Shl.f k l1 (wrap64 ((wrap64 (64*(l1.length:Int)))-t783))).bind fun t784=>((nat_Shl.f k l0 (wrap64 ((wrap64 (64*(l1.length:Int)))-t783))).bind fun t787=>(quot_long.l0 k l0 (wrap64 ((wrap64 (64*(l1.length:Int)))-t783)) t784 t787)))

/-! ### quot_Div: function 133 -/
def quot_Div.f (k:Nat) (l0:List Int) (l1:List Int):Option (List Int × List Int × Bool):=(nat_Trim.f k l0).bind fun t810=>((nat_Trim.f k l1).bind fun t813=>(if (t813.length:Int)=0 then (some (([]:List Int),([]:List Int),false)) else ((nat_Cmp.f k t810 t813).bind fun t816=>(if t816<0 then (some (([]:List Int),t810,true)) else (if (t813.length:Int)=1 then (if 0<(t813.length:Int) then ((quot_Word.f k t810 (rd t813 0)).bind fun bt818=>((nat_Of.f k bt818.2.1).bind fun t823=>(some (bt818.1,t823,true)))) else (none)) else ((quot_long.f k t810 t813).bind fun bt826=>(some (bt826.1,bt826.2,true))))))))

/-! ### gcd_words: function 165 -/
def gcd_words.l0:Nat→Int→Int→Option (Int)
 | 0,_,_=>none
 | k+1,x0,x1=>if x1=0 then (some x0) else (gcd_words.l0 k x1 (Int.tmod x0 x1))
def gcd_words.f (k:Nat) (a0:Int) (a1:Int):Option (Int):=gcd_words.l0 k a0 a1

/-! ### gcd_Gcd: function 164 -/
def gcd_Gcd.l0:Nat→List Int→List Int→Option (List Int)
 | 0,_,_=>none
 | k+1,x0,x1=>if (x1.length:Int)>1 then ((quot_Div.f k x0 x1).bind fun bt956=>(gcd_Gcd.l0 k x1 bt956.2.1)) else ((nat_Word.f k x1).bind fun bt963=>(if bt963.1=0 then (some x0) else ((quot_Word.f k x0 bt963.1).bind fun bt965=>((gcd_words.f k bt963.1 bt965.2.1).bind fun t970=>((nat_Of.f k t970).bind fun t971=>(some t971))))))
def gcd_Gcd.f (k:Nat) (l0:List Int) (l1:List Int):Option (List Int):=(nat_Trim.f k l0).bind fun t950=>((nat_Trim.f k l1).bind fun t953=>(gcd_Gcd.l0 k t950 t953))

/-! ### gcd_Coprime: function 96 -/
def gcd_Coprime.f (k:Nat) (l0:List Int) (l1:List Int):Option (Bool):=(gcd_Gcd.f k l0 l1).bind fun t591=>((nat_Of.f k 1).bind fun t594=>((nat_Cmp.f k t591 t594).bind fun t597=>(some (t597==0))))

/-! ### rat_Right: function 101 -/
def rat_Right.f (k:Nat) (a0_0:Bool) (l0_1:List Int) (l0_2:List Int):Option (Bool):=(nat_Right.f l0_1).bind fun t599=>(if t599=true then ((nat_Right.f l0_2).bind fun t600=>(if t600=true then (if (l0_2.length:Int)>0 then ((gcd_Coprime.f k l0_1 l0_2).bind fun t601=>(if t601=true then (if a0_0=true then (some (!((l0_1.length:Int)==0))) else (some (!false))) else (some false))) else (some false)) else (some false))) else (some false))

/-! ### line_Arity: function by hand -/
def line_Arity.j4:Nat→Option (Int)
 | 0=>none
 | k+1=>some 0
def line_Arity.f (k:Nat) (a0:Int):Option (Int):=if a0=1 then (line_Arity.j4 k) else (if a0=2 then (line_Arity.j4 k) else (if a0=3 then (some 1) else (if a0=8 then (some 1) else (if a0=9 then (some 1) else (if a0=10 then (some 1) else (if a0=4 then (some 2) else (if a0=5 then (some 2) else (if a0=6 then (some 2) else (if a0=7 then (some 2) else (some (-1)))))))))))

/-! ### line_none: function 203 -/
def line_none.f (a0_0:Bool) (l0_1:List Int) (l0_2:List Int):Option (Bool):=if a0_0=true then (some false) else (if (l0_1.length:Int)=0 then (some ((l0_2.length:Int)==0)) else (some false))

/-! ### line_fits: function by hand -/
def line_fits.f (k:Nat) (a0_0:Int) (a0_1:Int) (a0_2:Int) (a0_3:Bool) (a0_4:List Int) (a0_5:List Int) (a1:Int):Option (Bool):=(line_Arity.f k a0_0).bind fun t1=>(if t1=1 then (if a0_1≥0 then (if a0_1<a1 then (if a0_2=0 then ((line_none.f a0_3 a0_4 a0_5).bind fun t2=>(some t2)) else (some false)) else (some false)) else (some false)) else (if t1=2 then (if a0_1≥0 then (if a0_1<a1 then (if a0_2≥0 then (if a0_2<a1 then ((line_none.f a0_3 a0_4 a0_5).bind fun t3=>(some t3)) else (some false)) else (some false)) else (some false)) else (some false)) else (if a0_0=1 then (if a0_1≥0 then (if a0_1<65536 then (if a0_2=0 then ((line_none.f a0_3 a0_4 a0_5).bind fun t4=>(some t4)) else (some false)) else (some false)) else (some false)) else (if a0_0=2 then (if a0_1=0 then (if a0_2=0 then ((rat_Right.f k a0_3 a0_4 a0_5).bind fun t5=>(some t5)) else (some false)) else (some false)) else (some false)))))

/-! ### line_Right: function by hand -/
def line_Right.l0:Nat→(List (Int × Int × Int × Bool × (List Int) × List Int))→Int→Int→Option (Bool)
 | 0,_,_,_=>none
 | k+1,x8,x9,x10=>if x10<x9 then (if 0≤x10 then (if x10<(x8.length:Int) then ((line_fits.f k (rd_iiibLL x8 x10).1 (rd_iiibLL x8 x10).2.1 (rd_iiibLL x8 x10).2.2.1 (rd_iiibLL x8 x10).2.2.2.1 (rd_iiibLL x8 x10).2.2.2.2.1 (rd_iiibLL x8 x10).2.2.2.2.2 x10).bind fun t1=>(if t1=true then (line_Right.l0 k x8 x9 (wrap64 (x10+1))) else (some false))) else none) else none) else (some true)
def line_Right.f (k:Nat) (a0:List (Int × Int × Int × Bool × (List Int) × List Int)):Option (Bool):=if (a0.length:Int)>65536 then (some false) else (line_Right.l0 k a0 (a0.length:Int) 0)

/-! ### evals_right: function by hand -/
def evals_right.l0:Nat→(List (Bool × (List Int) × List Int))→Int→Int→Option (Bool)
 | 0,_,_,_=>none
 | k+1,x5,x6,x7=>if x7<x6 then (if 0≤x7 then (if x7<(x5.length:Int) then ((rat_Right.f k (rd_bLL x5 x7).1 (rd_bLL x5 x7).2.1 (rd_bLL x5 x7).2.2).bind fun t1=>(if t1=true then (evals_right.l0 k x5 x6 (wrap64 (x7+1))) else (some false))) else none) else none) else (some true)
def evals_right.f (k:Nat) (a0:List (Bool × (List Int) × List Int)):Option (Bool):=evals_right.l0 k a0 (a0.length:Int) 0

/-! ### gcd_Reduce: function 161 -/
def gcd_Reduce.f (k:Nat) (l0:List Int) (l1:List Int):Option (List Int × List Int):=(gcd_Gcd.f k l0 l1).bind fun t974=>(if (t974.length:Int)=0 then (some (([]:List Int),([]:List Int))) else ((quot_Div.f k l0 t974).bind fun bt977=>((quot_Div.f k l1 t974).bind fun bt984=>(some (bt977.1,bt984.1)))))

/-! ### rat_lowest: function 157 -/
def rat_lowest.f (k:Nat) (a0:Bool) (l1:List Int) (l2:List Int):Option (Bool × List Int × List Int):=(gcd_Reduce.f k l1 l2).bind fun bt992=>(if a0=true then (some (decide ((bt992.1.length:Int)>0),bt992.1,bt992.2)) else (some (false,bt992.1,bt992.2)))

/-! ### prod_rows: function 144 -/
mutual
def prod_rows.l0:Nat→List Int→List Int→List Int→Int→Int→Option (List Int)
 | 0,_,_,_,_,_=>none
 | k+1,x1,x5,x21,x22,x23=>if x23<x22 then (if 0≤x23 then (if x23<(x21.length:Int) then (prod_rows.l1 k x1 x5 x23 (rd x21 x23) 0 x21 x22 x23 x1 (x1.length:Int) 0) else (none)) else (none)) else ((nat_Trim.f k x5).bind fun t334=>(some t334))
def prod_rows.l1:Nat→List Int→List Int→Int→Int→Int→List Int→Int→Int→List Int→Int→Int→Option (List Int)
 | 0,_,_,_,_,_,_,_,_,_,_,_=>none
 | k+1,x1,x5,x6,x7,x8,x21,x22,x23,x28,x29,x30=>if x30<x29 then (if 0≤x30 then (if x30<(x28.length:Int) then ((limb_Mul.f x7 (rd x28 x30)).bind fun bt339=>(if 0≤(wrap64 (x6+x30)) then (if (wrap64 (x6+x30))<(x5.length:Int) then ((limb_Add.f (rd x5 (wrap64 (x6+x30))) bt339.2 x8).bind fun bt342=>(prod_rows.l1 k x1 (x5.set ((wrap64 (x6+x30)):Int).toNat bt342.1) x6 x7 (IntKind.u64.wrap (bt339.1+bt342.2)) x21 x22 x23 x28 x29 (wrap64 (x30+1)))) else (none)) else (none))) else (none)) else (none)) else (if 0≤(wrap64 (x6+(x1.length:Int))) then (if (wrap64 (x6+(x1.length:Int)))<(x5.length:Int) then (prod_rows.l0 k x1 (x5.set ((wrap64 (x6+(x1.length:Int))):Int).toNat x8) x21 x22 (wrap64 (x23+1))) else (none)) else (none))
end
def prod_rows.f (k:Nat) (l0:List Int) (l1:List Int):Option (List Int):=if 0≤(wrap64 ((l0.length:Int)+(l1.length:Int))) then (if (wrap64 ((l0.length:Int)+(l1.length:Int)):Int).toNat≤35184372088832 then (prod_rows.l0 k l1 (List.replicate (wrap64 ((l0.length:Int)+(l1.length:Int)):Int).toNat 0) l0 (l0.length:Int) 0) else (none)) else (none)

/-! ### nat_Sub: function 62 -/
def nat_Sub.l0:Nat→List Int→List Int→Int→List Int→Int→Int→Option (List Int × Bool)
 | 0,_,_,_,_,_,_=>none
 | k+1,x1,x6,x7,x18,x19,x20=>if x20<x19 then (if 0≤x20 then (if x20<(x18.length:Int) then (if x20<(x1.length:Int) then ((limb_Sub.f (rd x18 x20) (rd x1 x20) x7).bind fun bt352=>(if x6.length<17592186044416 then (nat_Sub.l0 k x1 (x6++ [bt352.1]) bt352.2 x18 x19 (wrap64 (x20+1))) else (none))) else ((limb_Sub.f (rd x18 x20) 0 x7).bind fun bt357=>(if x6.length<17592186044416 then (nat_Sub.l0 k x1 (x6++ [bt357.1]) bt357.2 x18 x19 (wrap64 (x20+1))) else (none)))) else (none)) else (none)) else ((nat_Trim.f k x6).bind fun t362=>(some (t362,true)))
def nat_Sub.f (k:Nat) (l0:List Int) (l1:List Int):Option (List Int × Bool):=(nat_Cmp.f k l0 l1).bind fun t346=>(if t346<0 then (some (([]:List Int),false)) else (if 0≤(l0.length:Int) then (if ((l0.length:Int):Int).toNat≤35184372088832 then (nat_Sub.l0 k l1 (List.replicate 0 0) 0 l0 (l0.length:Int) 0) else (none)) else (none)))

/-! ### nat_Add: function 111 -/
mutual
def nat_Add.l0:Nat→List Int→List Int→Int→List Int→Int→Int→Option (List Int)
 | 0,_,_,_,_,_,_=>none
 | k+1,x1,x5,x6,x21,x22,x23=>if x23<x22 then (if 0≤x23 then (if x23<(x21.length:Int) then (if x23<(x1.length:Int) then ((limb_Add.f (rd x21 x23) (rd x1 x23) x6).bind fun bt299=>(if x5.length<17592186044416 then (nat_Add.l0 k x1 (x5++ [bt299.1]) bt299.2 x21 x22 (wrap64 (x23+1))) else (none))) else ((limb_Add.f (rd x21 x23) 0 x6).bind fun bt304=>(if x5.length<17592186044416 then (nat_Add.l0 k x1 (x5++ [bt304.1]) bt304.2 x21 x22 (wrap64 (x23+1))) else (none)))) else (none)) else (none)) else (if x5.length<17592186044416 then ((nat_Trim.f k (x5++ [x6])).bind fun t312=>(some t312)) else (none))
def nat_Add.l1:Nat→List Int→List Int→Int→List Int→Int→Int→Option (List Int)
 | 0,_,_,_,_,_,_=>none
 | k+1,x1,x5,x6,x21,x22,x23=>if x23<x22 then (if 0≤x23 then (if x23<(x21.length:Int) then (if x23<(x1.length:Int) then ((limb_Add.f (rd x21 x23) (rd x1 x23) x6).bind fun bt320=>(if x5.length<17592186044416 then (nat_Add.l1 k x1 (x5++ [bt320.1]) bt320.2 x21 x22 (wrap64 (x23+1))) else (none))) else ((limb_Add.f (rd x21 x23) 0 x6).bind fun bt325=>(if x5.length<17592186044416 then (nat_Add.l1 k x1 (x5++ [bt325.1]) bt325.2 x21 x22 (wrap64 (x23+1))) else (none)))) else (none)) else (none)) else (if x5.length<17592186044416 then ((nat_Trim.f k (x5++ [x6])).bind fun t333=>(some t333)) else (none))
end
def nat_Add.f (k:Nat) (l0:List Int) (l1:List Int):Option (List Int):=if (l0.length:Int)<(l1.length:Int) then (if 0≤(wrap64 ((l1.length:Int)+1)) then (if (wrap64 ((l1.length:Int)+1):Int).toNat≤35184372088832 then (nat_Add.l0 k l0 (List.replicate 0 0) 0 l1 (l1.length:Int) 0) else (none)) else (none)) else (if 0≤(wrap64 ((l0.length:Int)+1)) then (if (wrap64 ((l0.length:Int)+1):Int).toNat≤35184372088832 then (nat_Add.l1 k l1 (List.replicate 0 0) 0 l0 (l0.length:Int) 0) else (none)) else (none))

/-! ### prod_part: function 160 -/
def prod_part.f (k:Nat) (l0:List Int) (a1:Int) (a2:Int):Option (List Int):=if 0≤(mn a1 (l0.length:Int)) then (if (mn a1 (l0.length:Int))≤(mn a2 (l0.length:Int)) then (if (mn a2 (l0.length:Int))≤(l0.length:Int) then ((nat_Trim.f k ((l0.take ((mn a2 (l0.length:Int)):Int).toNat).drop ((mn a1 (l0.length:Int)):Int).toNat)).bind fun t408=>(some t408)) else (none)) else (none)) else (none)

/-! ### prod_above: function 161 -/
def prod_above.f (k:Nat) (l0:List Int) (a1:Int):Option (List Int):=if 0≤a1 then (if (a1:Int).toNat≤35184372088832 then ((some (List.replicate (a1:Int).toNat 0:List Int)).bind fun y411=>(if y411.length+l0.length<17592186044416 then ((nat_Trim.f k (y411++l0)).bind fun t417=>(some t417)) else (none))) else (none)) else (none)

/-! ### prod_halves: function 145 -/
def prod_halves.f (M:List Int→List Int→Option (List Int)) (k:Nat) (l0:List Int) (l1:List Int):Option (List Int):=(prod_part.f k l0 0 (wrap64 (Int.tdiv (wrap64 ((mx (l0.length:Int) (l1.length:Int))+1)) 2))).bind fun t420=>((prod_part.f k l0 (wrap64 (Int.tdiv (wrap64 ((mx (l0.length:Int) (l1.length:Int))+1)) 2)) (l0.length:Int)).bind fun t423=>((prod_part.f k l1 0 (wrap64 (Int.tdiv (wrap64 ((mx (l0.length:Int) (l1.length:Int))+1)) 2))).bind fun t426=>((prod_part.f k l1 (wrap64 (Int.tdiv (wrap64 ((mx (l0.length:Int) (l1.length:Int))+1)) 2)) (l1.length:Int)).bind fun t429=>((M t420 t426).bind fun t432=>((M t423 t429).bind fun t435=>((nat_Add.f k t420 t423).bind fun t438=>((nat_Add.f k t426 t429).bind fun t441=>((M t438 t441).bind fun t444=>((nat_Add.f k t432 t435).bind fun t447=>((nat_Sub.f k t444 t447).bind fun bt450=>((prod_above.f k bt450.1 (wrap64 (Int.tdiv (wrap64 ((mx (l0.length:Int) (l1.length:Int))+1)) 2))).bind fun t454=>((prod_above.f k t435 (wrap64 (2*(wrap64 (Int.tdiv (wrap64 ((mx (l0.length:Int) (l1.length:Int))+1)) 2))))).bind fun t457=>((nat_Add.f k t454 t457).bind fun t460=>((nat_Add.f k t432 t460).bind fun t463=>(some t463)))))))))))))))

/-! ### prod_Mul: function 71 -/
def prod_Mul.f:Nat→List Int→List Int→Option (List Int)
 | 0,_,_=>none
 | k+1,l0,l1=>if (l0.length:Int)<8 then ((prod_rows.f k l0 l1).bind fun t466=>(some t466)) else (if (l1.length:Int)<8 then ((prod_rows.f k l0 l1).bind fun t469=>(some t469)) else ((prod_halves.f (prod_Mul.f k) k l0 l1).bind fun t472=>(some t472)))

/-! ### rat_same: function 156 -/
def rat_same.f (k:Nat) (l0:List Int) (l1:List Int):Option (Bool):=(nat_Right.f l0).bind fun t476=>(if t476=true then ((nat_Right.f l1).bind fun t477=>(if t477=true then ((nat_Cmp.f k l0 l1).bind fun t478=>(some (t478==0))) else (some false))) else (some false))

/-! ### rat_sum: function 157 -/
def rat_sum.f (k:Nat) (a0:Bool) (l1:List Int) (a2:Bool) (l3:List Int):Option (Bool × List Int):=if (a0==a2)=true then ((nat_Add.f k l1 l3).bind fun t479=>(some (a0,t479))) else ((nat_Sub.f k l1 l3).bind fun bt482=>(if bt482.2=true then (some (a0,bt482.1)) else ((nat_Sub.f k l3 l1).bind fun bt486=>(some (a2,bt486.1)))))

/-! ### rat_one: function 155 -/
def rat_one.f  :Option (List Int):=some (([1]:List Int))

/-! ### rat_safe: function 158 -/
def rat_safe.f (k:Nat) (l0:List Int):Option (List Int):=(nat_Bits.f k l0).bind fun t490=>(if t490=0 then ((rat_one.f).bind fun t491=>(some t491)) else (some l0))

/-! ### rat_Add: function 112 -/
def rat_Add.f (k:Nat) (a0_0:Bool) (l0_1:List Int) (l0_2:List Int) (a1_0:Bool) (l1_1:List Int) (l1_2:List Int):Option (Bool × List Int × List Int):=(rat_same.f k l0_2 l1_2).bind fun t497=>(if t497=true then ((rat_sum.f k a0_0 l0_1 a1_0 l1_1).bind fun bt498=>((rat_safe.f k l0_2).bind fun t502=>((rat_lowest.f k bt498.1 bt498.2 t502).bind fun bt505=>(some (bt505.1,bt505.2.1,bt505.2.2))))) else ((prod_Mul.f k l0_1 l1_2).bind fun t512=>((prod_Mul.f k l1_1 l0_2).bind fun t515=>((rat_sum.f k a0_0 t512 a1_0 t515).bind fun bt518=>((prod_Mul.f k l0_2 l1_2).bind fun t522=>((rat_safe.f k t522).bind fun t525=>((rat_lowest.f k bt518.1 bt518.2 t525).bind fun bt528=>(some (bt528.1,bt528.2.1,bt528.2.2)))))))))

/-! ### rat_Mul: function 116 -/
def rat_Mul.f (k:Nat) (a0_0:Bool) (l0_1:List Int) (l0_2:List Int) (a1_0:Bool) (l1_1:List Int) (l1_2:List Int):Option (Bool × List Int × List Int):=(rat_safe.f k l1_2).bind fun t918=>((gcd_Reduce.f k l0_1 t918).bind fun bt921=>((rat_safe.f k l0_2).bind fun t927=>((gcd_Reduce.f k l1_1 t927).bind fun bt930=>((prod_Mul.f k bt921.1 bt930.1).bind fun t936=>((prod_Mul.f k bt930.2 bt921.2).bind fun t939=>((rat_lowest.f k (a0_0 !=a1_0) t936 t939).bind fun bt942=>(some (bt942.1,bt942.2.1,bt942.2.2))))))))

/-! ### rat_Neg: function 118 -/
def rat_Neg.f (k:Nat) (a0_0:Bool) (l0_1:List Int) (l0_2:List Int):Option (Bool × List Int × List Int):=if a0_0=true then ((nat_Trim.f k l0_1).bind fun t1061=>((nat_Trim.f k l0_2).bind fun t1064=>(some (false,t1061,t1064)))) else ((nat_Bits.f k l0_1).bind fun t1067=>((nat_Trim.f k l0_1).bind fun t1068=>((nat_Trim.f k l0_2).bind fun t1071=>(some (decide (t1067>0),t1068,t1071)))))

/-! ### rat_Sub: function 114 -/
def rat_Sub.f (k:Nat) (a0_0:Bool) (l0_1:List Int) (l0_2:List Int) (a1_0:Bool) (l1_1:List Int) (l1_2:List Int):Option (Bool × List Int × List Int):=(rat_Neg.f k a1_0 l1_1 l1_2).bind fun bt1077=>((rat_Add.f k a0_0 l0_1 l0_2 bt1077.1 bt1077.2.1 bt1077.2.2).bind fun bt1084=>(some (bt1084.1,bt1084.2.1,bt1084.2.2)))

/-! ### rat_Inv: function 109 -/
def rat_Inv.f (k:Nat) (a0_0:Bool) (l0_1:List Int) (l0_2:List Int):Option (Bool × List Int × List Int × Int):=(nat_Bits.f k l0_1).bind fun t908=>(if t908=0 then (some (false,([]:List Int),([]:List Int),4)) else ((nat_Trim.f k l0_2).bind fun t909=>((nat_Trim.f k l0_1).bind fun t912=>(some (a0_0,t909,t912,0)))))

/-! ### rat_Div: function 108 -/
def rat_Div.f (k:Nat) (a0_0:Bool) (l0_1:List Int) (l0_2:List Int) (a1_0:Bool) (l1_1:List Int) (l1_2:List Int):Option (Bool × List Int × List Int × Int):=(rat_Inv.f k a1_0 l1_1 l1_2).bind fun bt952=>(if bt952.2.2.2=0 then ((rat_Mul.f k a0_0 l0_1 l0_2 bt952.1 bt952.2.1 bt952.2.2.1).bind fun bt961=>(some (bt961.1,bt961.2.1,bt961.2.2,0))) else (some (false,([]:List Int),([]:List Int),bt952.2.2.2)))

/-! ### evals_exact_form: function by hand -/
def evals_exact_form.f (k:Nat) (s0_0:List (Bool × (List Int) × List Int)) (s0_1:List (Bool × (List Int) × List Int)) (s0_2:List (Bool × (List Int) × List Int)) (s0_3:Int):Option (Bool × List Int × List Int × Int × List (Bool × (List Int) × List Int) × List (Bool × (List Int) × List Int) × List (Bool × (List Int) × List Int) × Int):=if s0_3≥(s0_2.length:Int) then (some (false,([]:List Int),([]:List Int),6,s0_0,s0_1,s0_2,s0_3)) else (if 0≤(wrap64 ((wrap64 (s0_3+1))-1)) then (if (wrap64 ((wrap64 (s0_3+1))-1))<(s0_2.length:Int) then (some ((rd_bLL s0_2 (wrap64 ((wrap64 (s0_3+1))-1))).1,(rd_bLL s0_2 (wrap64 ((wrap64 (s0_3+1))-1))).2.1,(rd_bLL s0_2 (wrap64 ((wrap64 (s0_3+1))-1))).2.2,0,s0_0,s0_1,s0_2,(wrap64 (s0_3+1)))) else none) else none)

/-! ### evals_exact_step: function by hand -/
def evals_exact_step.f (k:Nat) (s0_0:List (Bool × (List Int) × List Int)) (s0_1:List (Bool × (List Int) × List Int)) (s0_2:List (Bool × (List Int) × List Int)) (s0_3:Int) (a1_0:Int) (a1_1:Int) (a1_2:Int) (a1_3:Bool) (a1_4:List Int) (a1_5:List Int):Option (Bool × List Int × List Int × Int × List (Bool × (List Int) × List Int) × List (Bool × (List Int) × List Int) × List (Bool × (List Int) × List Int) × Int):=if a1_0=1 then (if a1_1≥(s0_1.length:Int) then (some (false,([]:List Int),([]:List Int),11,s0_0,s0_1,s0_2,s0_3)) else (if 0≤a1_1 then (if a1_1<(s0_1.length:Int) then (some ((rd_bLL s0_1 a1_1).1,(rd_bLL s0_1 a1_1).2.1,(rd_bLL s0_1 a1_1).2.2,0,s0_0,s0_1,s0_2,s0_3)) else none) else none)) else (if a1_0=2 then (some (a1_3,a1_4,a1_5,0,s0_0,s0_1,s0_2,s0_3)) else (if a1_0=3 then (if 0≤a1_1 then (if a1_1<(s0_0.length:Int) then ((rat_Neg.f k (rd_bLL s0_0 a1_1).1 (rd_bLL s0_0 a1_1).2.1 (rd_bLL s0_0 a1_1).2.2).bind fun bt1=>(some (bt1.1,bt1.2.1,bt1.2.2,0,s0_0,s0_1,s0_2,s0_3))) else none) else none) else (if a1_0=4 then (if 0≤a1_1 then (if a1_1<(s0_0.length:Int) then (if 0≤a1_2 then (if a1_2<(s0_0.length:Int) then ((rat_Add.f k (rd_bLL s0_0 a1_1).1 (rd_bLL s0_0 a1_1).2.1 (rd_bLL s0_0 a1_1).2.2 (rd_bLL s0_0 a1_2).1 (rd_bLL s0_0 a1_2).2.1 (rd_bLL s0_0 a1_2).2.2).bind fun bt2=>(some (bt2.1,bt2.2.1,bt2.2.2,0,s0_0,s0_1,s0_2,s0_3))) else none) else none) else none) else none) else (if a1_0=5 then (if 0≤a1_1 then (if a1_1<(s0_0.length:Int) then (if 0≤a1_2 then (if a1_2<(s0_0.length:Int) then ((rat_Sub.f k (rd_bLL s0_0 a1_1).1 (rd_bLL s0_0 a1_1).2.1 (rd_bLL s0_0 a1_1).2.2 (rd_bLL s0_0 a1_2).1 (rd_bLL s0_0 a1_2).2.1 (rd_bLL s0_0 a1_2).2.2).bind fun bt3=>(some (bt3.1,bt3.2.1,bt3.2.2,0,s0_0,s0_1,s0_2,s0_3))) else none) else none) else none) else none) else (if a1_0=6 then (if 0≤a1_1 then (if a1_1<(s0_0.length:Int) then (if 0≤a1_2 then (if a1_2<(s0_0.length:Int) then ((rat_Mul.f k (rd_bLL s0_0 a1_1).1 (rd_bLL s0_0 a1_1).2.1 (rd_bLL s0_0 a1_1).2.2 (rd_bLL s0_0 a1_2).1 (rd_bLL s0_0 a1_2).2.1 (rd_bLL s0_0 a1_2).2.2).bind fun bt4=>(some (bt4.1,bt4.2.1,bt4.2.2,0,s0_0,s0_1,s0_2,s0_3))) else none) else none) else none) else none) else (if a1_0=7 then (if 0≤a1_1 then (if a1_1<(s0_0.length:Int) then (if 0≤a1_2 then (if a1_2<(s0_0.length:Int) then ((rat_Div.f k (rd_bLL s0_0 a1_1).1 (rd_bLL s0_0 a1_1).2.1 (rd_bLL s0_0 a1_1).2.2 (rd_bLL s0_0 a1_2).1 (rd_bLL s0_0 a1_2).2.1 (rd_bLL s0_0 a1_2).2.2).bind fun bt5=>(some (bt5.1,bt5.2.1,bt5.2.2.1,bt5.2.2.2,s0_0,s0_1,s0_2,s0_3))) else none) else none) else none) else none) else ((evals_exact_form.f k s0_0 s0_1 s0_2 s0_3).bind fun bt6=>(some (bt6.1,bt6.2.1,bt6.2.2.1,bt6.2.2.2.1,bt6.2.2.2.2.1,bt6.2.2.2.2.2.1,bt6.2.2.2.2.2.2.1,bt6.2.2.2.2.2.2.2)))))))))

/-! ### power_Bits: function 132 -/
def power_Bits.f (k:Nat) (a0_0:Bool) (l0_1:List Int) (l0_2:List Int):Option (Int):=(nat_Bits.f k l0_1).bind fun t1678=>((nat_Bits.f k l0_2).bind fun t1679=>(some (mx t1678 t1679)))

/-! ### evals_copied: function 87 -/
def evals_copied.f (a0_0:Bool) (l0_1:List Int) (l0_2:List Int):Option (Bool × List Int × List Int):=(some (([]:List Int):List Int)).bind fun y695=>(if y695.length+l0_1.length<17592186044416 then ((some (([]:List Int):List Int)).bind fun y701=>(if y701.length+l0_2.length<17592186044416 then (some (a0_0,(y695++l0_1),(y701++l0_2))) else (none))) else (none))

/-! ### evals_Exact: function by hand -/
mutual
def evals_Exact.l0:Nat→(List (Int × Int × Int × Bool × (List Int) × List Int))→Int→Int→(List (Bool × (List Int) × List Int))→(List (Bool × (List Int) × List Int))→(List (Bool × (List Int) × List Int))→Int→Option (List (Bool × (List Int) × List Int) × Int × Int)
 | 0,_,_,_,_,_,_,_=>none
 | k+1,x31,x32,x33,v30_0,v30_1,v30_2,v30_3=>if x33<x32 then (if 0≤x33 then (if x33<(x31.length:Int) then ((evals_exact_step.f k v30_0 v30_1 v30_2 v30_3 (rd_iiibLL x31 x33).1 (rd_iiibLL x31 x33).2.1 (rd_iiibLL x31 x33).2.2.1 (rd_iiibLL x31 x33).2.2.2.1 (rd_iiibLL x31 x33).2.2.2.2.1 (rd_iiibLL x31 x33).2.2.2.2.2).bind fun bt4=>(if bt4.2.2.2.1=0 then ((power_Bits.f k bt4.1 bt4.2.1 bt4.2.2.1).bind fun t5=>(if t5>4096 then (evals_Exact.j10 k x33 5 x31 x32 x33 bt4.1 bt4.2.1 bt4.2.2.1 bt4.2.2.2.2.1 bt4.2.2.2.2.2.1 bt4.2.2.2.2.2.2.1 bt4.2.2.2.2.2.2.2) else (evals_Exact.j10 k x33 bt4.2.2.2.1 x31 x32 x33 bt4.1 bt4.2.1 bt4.2.2.1 bt4.2.2.2.2.1 bt4.2.2.2.2.2.1 bt4.2.2.2.2.2.2.1 bt4.2.2.2.2.2.2.2))) else (evals_Exact.j10 k x33 bt4.2.2.2.1 x31 x32 x33 bt4.1 bt4.2.1 bt4.2.2.1 bt4.2.2.2.2.1 bt4.2.2.2.2.2.1 bt4.2.2.2.2.2.2.1 bt4.2.2.2.2.2.2.2))) else none) else none) else (some (v30_0,0,0))
def evals_Exact.j2:Nat→Option (List (Bool × (List Int) × List Int) × Int × Int)
 | 0=>none
 | k+1=>some (([]:List (Bool × (List Int) × List Int)),0,1)
def evals_Exact.j10:Nat→Int→Int→(List (Int × Int × Int × Bool × (List Int) × List Int))→Int→Int→Bool→List Int→List Int→(List (Bool × (List Int) × List Int))→(List (Bool × (List Int) × List Int))→(List (Bool × (List Int) × List Int))→Int→Option (List (Bool × (List Int) × List Int) × Int × Int)
 | 0,_,_,_,_,_,_,_,_,_,_,_,_=>none
 | k+1,x10,x13,x31,x32,x33,v12_0,v12_1,v12_2,v30_0,v30_1,v30_2,v30_3=>if x13=0 then ((evals_copied.f v12_0 v12_1 v12_2).bind fun bt6=>(if (v30_0.length+1)*56≤140737488355328 then (evals_Exact.l0 k x31 x32 (wrap64 (x33+1)) (v30_0++ [(bt6.1,(bt6.2.1,bt6.2.2))]) v30_1 v30_2 v30_3) else none)) else (some (([]:List (Bool × (List Int) × List Int)),x10,x13))
end
def evals_Exact.f (k:Nat) (a0:List (Int × Int × Int × Bool × (List Int) × List Int)) (a1:List (Bool × (List Int) × List Int)) (a2:List (Bool × (List Int) × List Int)):Option (List (Bool × (List Int) × List Int) × Int × Int):=(line_Right.f k a0).bind fun t1=>(if t1=true then ((evals_right.f k a1).bind fun t2=>(if t2=true then ((evals_right.f k a2).bind fun t3=>(if t3=true then (evals_Exact.l0 k a0 (a0.length:Int) 0 [] a1 a2 0) else (evals_Exact.j2 k))) else (evals_Exact.j2 k))) else (evals_Exact.j2 k))

/-! ### gradineplain_Long: function 130 -/
def gradineplain_Long.f (a0_0:Bool) (l0_1:List Int) (l0_2:List Int) (a1:Int):Option (Bool):=if (l0_1.length:Int)>a1 then (some true) else (some (decide ((l0_2.length:Int)>a1)))

/-! ### gradineplain_Longer: function by hand -/
def gradineplain_Longer.l0:Nat→(List (Bool × (List Int) × List Int))→Int→Int→Int→Option (Bool)
 | 0,_,_,_,_=>none
 | k+1,x0,x1,x7,x8=>if x8<x7 then (if 0≤x8 then (if x8<(x0.length:Int) then ((gradineplain_Long.f (rd_bLL x0 x8).1 (rd_bLL x0 x8).2.1 (rd_bLL x0 x8).2.2 x1).bind fun t1=>(if t1=true then (some true) else (gradineplain_Longer.l0 k x0 x1 x7 (wrap64 (x8+1))))) else none) else none) else (some false)
def gradineplain_Longer.f (k:Nat) (a0:List (Bool × (List Int) × List Int)) (a1:Int):Option (Bool):=gradineplain_Longer.l0 k a0 a1 (a0.length:Int) 0

/-! ### rat_Of: function 103 -/
def rat_Of.f (k:Nat) (a0:Int):Option (Bool × List Int × List Int):=if a0<0 then ((nat_Of.f k (IntKind.u64.wrap (-(IntKind.u64.wrap (a0))))).bind fun t319=>((rat_one.f).bind fun t322=>(some (true,t319,t322)))) else ((nat_Of.f k (IntKind.u64.wrap (a0))).bind fun t325=>((rat_one.f).bind fun t328=>(some (false,t325,t328))))

/-! ### tangent_by: function by hand -/
def tangent_by.f (k:Nat) (a0_0:Bool) (a0_1:List Int) (a0_2:List Int) (a1_0:Bool) (a1_1:List Int) (a1_2:List Int) (s2_0:Int):Option (Bool × List Int × List Int × Int):=(rat_Div.f k a0_0 a0_1 a0_2 a1_0 a1_1 a1_2).bind fun bt1=>(if s2_0=0 then (some (bt1.1,bt1.2.1,bt1.2.2.1,bt1.2.2.2)) else (some (bt1.1,bt1.2.1,bt1.2.2.1,s2_0)))

/-! ### tangent_twice: function 115 -/
def tangent_twice.f (k:Nat) (a0_0:Bool) (l0_1:List Int) (l0_2:List Int):Option (Bool × List Int × List Int):=(rat_Add.f k a0_0 l0_1 l0_2 a0_0 l0_1 l0_2).bind fun bt728=>(some (bt728.1,bt728.2.1,bt728.2.2))

/-! ### tangent_along: function by hand -/
def tangent_along.f (k:Nat) (a0_0:Int) (a0_1:Int) (a0_2:Int) (a0_3:Bool) (a0_4:List Int) (a0_5:List Int) (a1:Int) (a2:List (Bool × (List Int) × List Int)) (l3:List (Bool × (List Int) × List Int)) (a4:List (Bool × (List Int) × List Int)):Option (Bool × List Int × List Int × Int × List (Bool × (List Int) × List Int)):=if a0_0=1 then (if 0≤a0_1 then (if a0_1<(a4.length:Int) then (some ((rd_bLL a4 a0_1).1,(rd_bLL a4 a0_1).2.1,(rd_bLL a4 a0_1).2.2,0,l3)) else none) else none) else (if a0_0=2 then ((rat_Of.f k 0).bind fun bt1=>(some (bt1.1,bt1.2.1,bt1.2.2,0,l3))) else (if a0_0=3 then (if 0≤a0_1 then (if a0_1<(l3.length:Int) then ((rat_Neg.f k (rd_bLL l3 a0_1).1 (rd_bLL l3 a0_1).2.1 (rd_bLL l3 a0_1).2.2).bind fun bt2=>(some (bt2.1,bt2.2.1,bt2.2.2,0,l3))) else none) else none) else (if a0_0=4 then (if 0≤a0_1 then (if a0_1<(l3.length:Int) then (if 0≤a0_2 then (if a0_2<(l3.length:Int) then ((rat_Add.f k (rd_bLL l3 a0_1).1 (rd_bLL l3 a0_1).2.1 (rd_bLL l3 a0_1).2.2 (rd_bLL l3 a0_2).1 (rd_bLL l3 a0_2).2.1 (rd_bLL l3 a0_2).2.2).bind fun bt3=>(some (bt3.1,bt3.2.1,bt3.2.2,0,l3))) else none) else none) else none) else none) else (if a0_0=5 then (if 0≤a0_1 then (if a0_1<(l3.length:Int) then (if 0≤a0_2 then (if a0_2<(l3.length:Int) then ((rat_Sub.f k (rd_bLL l3 a0_1).1 (rd_bLL l3 a0_1).2.1 (rd_bLL l3 a0_1).2.2 (rd_bLL l3 a0_2).1 (rd_bLL l3 a0_2).2.1 (rd_bLL l3 a0_2).2.2).bind fun bt4=>(some (bt4.1,bt4.2.1,bt4.2.2,0,l3))) else none) else none) else none) else none) else (if a0_0=6 then (if 0≤a0_1 then (if a0_1<(l3.length:Int) then (if 0≤a0_2 then (if a0_2<(a2.length:Int) then ((rat_Mul.f k (rd_bLL l3 a0_1).1 (rd_bLL l3 a0_1).2.1 (rd_bLL l3 a0_1).2.2 (rd_bLL a2 a0_2).1 (rd_bLL a2 a0_2).2.1 (rd_bLL a2 a0_2).2.2).bind fun bt5=>(if a0_1<(a2.length:Int) then (if a0_2<(l3.length:Int) then ((rat_Mul.f k (rd_bLL a2 a0_1).1 (rd_bLL a2 a0_1).2.1 (rd_bLL a2 a0_1).2.2 (rd_bLL l3 a0_2).1 (rd_bLL l3 a0_2).2.1 (rd_bLL l3 a0_2).2.2).bind fun bt6=>((rat_Add.f k bt5.1 bt5.2.1 bt5.2.2 bt6.1 bt6.2.1 bt6.2.2).bind fun bt7=>(some (bt7.1,bt7.2.1,bt7.2.2,0,l3)))) else none) else none)) else none) else none) else none) else none) else (if a0_0=7 then (if 0≤a0_1 then (if a0_1<(l3.length:Int) then (if 0≤a1 then (if a1<(a2.length:Int) then (if 0≤a0_2 then (if a0_2<(l3.length:Int) then ((rat_Mul.f k (rd_bLL a2 a1).1 (rd_bLL a2 a1).2.1 (rd_bLL a2 a1).2.2 (rd_bLL l3 a0_2).1 (rd_bLL l3 a0_2).2.1 (rd_bLL l3 a0_2).2.2).bind fun bt8=>((rat_Sub.f k (rd_bLL l3 a0_1).1 (rd_bLL l3 a0_1).2.1 (rd_bLL l3 a0_1).2.2 bt8.1 bt8.2.1 bt8.2.2).bind fun bt9=>(if a0_2<(a2.length:Int) then ((tangent_by.f k bt9.1 bt9.2.1 bt9.2.2 (rd_bLL a2 a0_2).1 (rd_bLL a2 a0_2).2.1 (rd_bLL a2 a0_2).2.2 0).bind fun bt10=>(some (bt10.1,bt10.2.1,bt10.2.2.1,bt10.2.2.2,l3))) else none))) else none) else none) else none) else none) else none) else none) else (if a0_0=8 then (if 0≤a0_1 then (if a0_1<(l3.length:Int) then (if 0≤a1 then (if a1<(a2.length:Int) then ((tangent_twice.f k (rd_bLL a2 a1).1 (rd_bLL a2 a1).2.1 (rd_bLL a2 a1).2.2).bind fun bt11=>((tangent_by.f k (rd_bLL l3 a0_1).1 (rd_bLL l3 a0_1).2.1 (rd_bLL l3 a0_1).2.2 bt11.1 bt11.2.1 bt11.2.2 0).bind fun bt12=>(some (bt12.1,bt12.2.1,bt12.2.2.1,bt12.2.2.2,l3)))) else none) else none) else none) else none) else (if a0_0=9 then (if 0≤a0_1 then (if a0_1<(l3.length:Int) then (if 0≤a1 then (if a1<(a2.length:Int) then ((rat_Mul.f k (rd_bLL l3 a0_1).1 (rd_bLL l3 a0_1).2.1 (rd_bLL l3 a0_1).2.2 (rd_bLL a2 a1).1 (rd_bLL a2 a1).2.1 (rd_bLL a2 a1).2.2).bind fun bt13=>(some (bt13.1,bt13.2.1,bt13.2.2,0,l3))) else none) else none) else none) else none) else (if 0≤a0_1 then (if a0_1<(l3.length:Int) then (if a0_1<(a2.length:Int) then ((tangent_by.f k (rd_bLL l3 a0_1).1 (rd_bLL l3 a0_1).2.1 (rd_bLL l3 a0_1).2.2 (rd_bLL a2 a0_1).1 (rd_bLL a2 a0_1).2.1 (rd_bLL a2 a0_1).2.2 0).bind fun bt14=>(some (bt14.1,bt14.2.1,bt14.2.2.1,bt14.2.2.2,l3))) else none) else none) else none)))))))))

/-! ### tangent_size: function 58 -/
def tangent_size.f (k:Nat) (a0_0:Bool) (l0_1:List Int) (l0_2:List Int) (a1:Int):Option (Int):=if a1=0 then ((power_Bits.f k a0_0 l0_1 l0_2).bind fun t738=>(if t738>4096 then (some 5) else (some a1))) else (some a1)

/-! ### tangent_Of: function by hand -/
mutual
def tangent_Of.l0:Nat→(List (Int × Int × Int × Bool × (List Int) × List Int))→(List (Bool × (List Int) × List Int))→(List (Bool × (List Int) × List Int))→(List (Bool × (List Int) × List Int))→(List (Bool × (List Int) × List Int))→Int→Int→Option (List (Bool × (List Int) × List Int) × List (Bool × (List Int) × List Int) × Int × Int)
 | 0,_,_,_,_,_,_,_=>none
 | k+1,x0,x1,x2,x3,x27,x28,x29=>if x29<x28 then (if 0≤x29 then (if x29<(x27.length:Int) then ((rat_Right.f k (rd_bLL x27 x29).1 (rd_bLL x27 x29).2.1 (rd_bLL x27 x29).2.2).bind fun t1=>(if t1=true then (tangent_Of.l0 k x0 x1 x2 x3 x27 x28 (wrap64 (x29+1))) else (some (([]:List (Bool × (List Int) × List Int)),([]:List (Bool × (List Int) × List Int)),0,1)))) else none) else none) else ((evals_Exact.f k x0 x1 x3).bind fun bt2=>(if bt2.2.2=0 then (tangent_Of.l1 k x2 bt2.1 [] x0 (x0.length:Int) 0) else (some (([]:List (Bool × (List Int) × List Int)),([]:List (Bool × (List Int) × List Int)),bt2.2.1,bt2.2.2))))
def tangent_Of.l1:Nat→(List (Bool × (List Int) × List Int))→(List (Bool × (List Int) × List Int))→(List (Bool × (List Int) × List Int))→(List (Int × Int × Int × Bool × (List Int) × List Int))→Int→Int→Option (List (Bool × (List Int) × List Int) × List (Bool × (List Int) × List Int) × Int × Int)
 | 0,_,_,_,_,_,_=>none
 | k+1,x2,x14,x17,x49,x50,x51=>if x51<x50 then (if 0≤x51 then (if x51<(x49.length:Int) then ((tangent_along.f k (rd_iiibLL x49 x51).1 (rd_iiibLL x49 x51).2.1 (rd_iiibLL x49 x51).2.2.1 (rd_iiibLL x49 x51).2.2.2.1 (rd_iiibLL x49 x51).2.2.2.2.1 (rd_iiibLL x49 x51).2.2.2.2.2 x51 x14 x17 x2).bind fun bt3=>((tangent_size.f k bt3.1 bt3.2.1 bt3.2.2.1 bt3.2.2.2.1).bind fun t4=>(if t4=0 then (if (([]:List Int).length+bt3.2.1.length)*8≤140737488355328 then (if (([]:List Int).length+bt3.2.2.1.length)*8≤140737488355328 then (if (bt3.2.2.2.2.length+1)*56≤140737488355328 then (tangent_Of.l1 k x2 x14 (bt3.2.2.2.2++ [(bt3.1,((([]:List Int)++bt3.2.1),(([]:List Int)++bt3.2.2.1)))]) x49 x50 (wrap64 (x51+1))) else none) else none) else none) else (some (([]:List (Bool × (List Int) × List Int)),([]:List (Bool × (List Int) × List Int)),x51,t4))))) else none) else none) else (some (x14,x17,0,0))
end
def tangent_Of.f (k:Nat) (a0:List (Int × Int × Int × Bool × (List Int) × List Int)) (a1:List (Bool × (List Int) × List Int)) (a2:List (Bool × (List Int) × List Int)) (a3:List (Bool × (List Int) × List Int)):Option (List (Bool × (List Int) × List Int) × List (Bool × (List Int) × List Int) × Int × Int):=if (a1.length:Int)=(a2.length:Int) then (tangent_Of.l0 k a0 a1 a2 a3 a2 (a2.length:Int) 0) else (some (([]:List (Bool × (List Int) × List Int)),([]:List (Bool × (List Int) × List Int)),0,1))

/-! ### line_Inputs: function by hand -/
def line_Inputs.l0:Nat→Int→(List (Int × Int × Int × Bool × (List Int) × List Int))→Int→Int→Option (Int)
 | 0,_,_,_,_=>none
 | k+1,x3,x6,x7,x8=>if x8<x7 then (if 0≤x8 then (if x8<(x6.length:Int) then (if (rd_iiibLL x6 x8).1=1 then (if (rd_iiibLL x6 x8).2.1≥x3 then (if (rd_iiibLL x6 x8).2.1<65536 then (line_Inputs.l0 k (wrap64 ((rd_iiibLL x6 x8).2.1+1)) x6 x7 (wrap64 (x8+1))) else (line_Inputs.l0 k x3 x6 x7 (wrap64 (x8+1)))) else (line_Inputs.l0 k x3 x6 x7 (wrap64 (x8+1)))) else (line_Inputs.l0 k x3 x6 x7 (wrap64 (x8+1)))) else none) else none) else (some x3)
def line_Inputs.f (k:Nat) (a0:List (Int × Int × Int × Bool × (List Int) × List Int)):Option (Int):=line_Inputs.l0 k 0 a0 (a0.length:Int) 0

/-! ### tangent_sweep_give: function by hand -/
def tangent_sweep_give.f (k:Nat) (s0_0:List (Bool × (List Int) × List Int)) (s0_1:List (Bool × (List Int) × List Int)) (s0_2:List (Bool × (List Int) × List Int)) (a1:Int) (a2_0:Bool) (a2_1:List Int) (a2_2:List Int):Option (List (Bool × (List Int) × List Int) × List (Bool × (List Int) × List Int) × List (Bool × (List Int) × List Int)):=if 0≤a1 then (if a1<(s0_1.length:Int) then ((rat_Add.f k (rd_bLL s0_1 a1).1 (rd_bLL s0_1 a1).2.1 (rd_bLL s0_1 a1).2.2 a2_0 a2_1 a2_2).bind fun bt1=>(some (s0_0,(s0_1.set (a1:Int).toNat (bt1.1,(bt1.2.1,bt1.2.2))),s0_2))) else none) else none

/-! ### tangent_sweep_step: function by hand -/
def tangent_sweep_step.f (k:Nat) (s0_0:List (Bool × (List Int) × List Int)) (s0_1:List (Bool × (List Int) × List Int)) (s0_2:List (Bool × (List Int) × List Int)) (a1_0:Int) (a1_1:Int) (a1_2:Int) (a1_3:Bool) (a1_4:List Int) (a1_5:List Int) (a2:Int):Option (Int × List (Bool × (List Int) × List Int) × List (Bool × (List Int) × List Int) × List (Bool × (List Int) × List Int)):=if 0≤a2 then (if a2<(s0_1.length:Int) then (if a1_0=1 then (if 0≤a1_1 then (if a1_1<(s0_2.length:Int) then ((rat_Add.f k (rd_bLL s0_2 a1_1).1 (rd_bLL s0_2 a1_1).2.1 (rd_bLL s0_2 a1_1).2.2 (rd_bLL s0_1 a2).1 (rd_bLL s0_1 a2).2.1 (rd_bLL s0_1 a2).2.2).bind fun bt1=>(some (0,s0_0,s0_1,(s0_2.set (a1_1:Int).toNat (bt1.1,(bt1.2.1,bt1.2.2)))))) else none) else none) else (if a1_0=3 then ((rat_Neg.f k (rd_bLL s0_1 a2).1 (rd_bLL s0_1 a2).2.1 (rd_bLL s0_1 a2).2.2).bind fun bt2=>((tangent_sweep_give.f k s0_0 s0_1 s0_2 a1_1 bt2.1 bt2.2.1 bt2.2.2).bind fun bt3=>(some (0,bt3.1,bt3.2.1,bt3.2.2)))) else (if a1_0=4 then ((tangent_sweep_give.f k s0_0 s0_1 s0_2 a1_1 (rd_bLL s0_1 a2).1 (rd_bLL s0_1 a2).2.1 (rd_bLL s0_1 a2).2.2).bind fun bt4=>((tangent_sweep_give.f k bt4.1 bt4.2.1 bt4.2.2 a1_2 (rd_bLL s0_1 a2).1 (rd_bLL s0_1 a2).2.1 (rd_bLL s0_1 a2).2.2).bind fun bt5=>(some (0,bt5.1,bt5.2.1,bt5.2.2)))) else (if a1_0=5 then ((tangent_sweep_give.f k s0_0 s0_1 s0_2 a1_1 (rd_bLL s0_1 a2).1 (rd_bLL s0_1 a2).2.1 (rd_bLL s0_1 a2).2.2).bind fun bt6=>((rat_Neg.f k (rd_bLL s0_1 a2).1 (rd_bLL s0_1 a2).2.1 (rd_bLL s0_1 a2).2.2).bind fun bt7=>((tangent_sweep_give.f k bt6.1 bt6.2.1 bt6.2.2 a1_2 bt7.1 bt7.2.1 bt7.2.2).bind fun bt8=>(some (0,bt8.1,bt8.2.1,bt8.2.2))))) else (if a1_0=6 then (if 0≤a1_2 then (if a1_2<(s0_0.length:Int) then ((rat_Mul.f k (rd_bLL s0_1 a2).1 (rd_bLL s0_1 a2).2.1 (rd_bLL s0_1 a2).2.2 (rd_bLL s0_0 a1_2).1 (rd_bLL s0_0 a1_2).2.1 (rd_bLL s0_0 a1_2).2.2).bind fun bt9=>((tangent_sweep_give.f k s0_0 s0_1 s0_2 a1_1 bt9.1 bt9.2.1 bt9.2.2).bind fun bt10=>(if 0≤a1_1 then (if a1_1<(bt10.1.length:Int) then ((rat_Mul.f k (rd_bLL s0_1 a2).1 (rd_bLL s0_1 a2).2.1 (rd_bLL s0_1 a2).2.2 (rd_bLL bt10.1 a1_1).1 (rd_bLL bt10.1 a1_1).2.1 (rd_bLL bt10.1 a1_1).2.2).bind fun bt11=>((tangent_sweep_give.f k bt10.1 bt10.2.1 bt10.2.2 a1_2 bt11.1 bt11.2.1 bt11.2.2).bind fun bt12=>(some (0,bt12.1,bt12.2.1,bt12.2.2)))) else none) else none))) else none) else none) else (if a1_0=7 then (if 0≤a1_2 then (if a1_2<(s0_0.length:Int) then ((tangent_by.f k (rd_bLL s0_1 a2).1 (rd_bLL s0_1 a2).2.1 (rd_bLL s0_1 a2).2.2 (rd_bLL s0_0 a1_2).1 (rd_bLL s0_0 a1_2).2.1 (rd_bLL s0_0 a1_2).2.2 0).bind fun bt13=>((tangent_sweep_give.f k s0_0 s0_1 s0_2 a1_1 bt13.1 bt13.2.1 bt13.2.2.1).bind fun bt14=>(if a2<(bt14.1.length:Int) then ((rat_Mul.f k bt13.1 bt13.2.1 bt13.2.2.1 (rd_bLL bt14.1 a2).1 (rd_bLL bt14.1 a2).2.1 (rd_bLL bt14.1 a2).2.2).bind fun bt15=>((rat_Neg.f k bt15.1 bt15.2.1 bt15.2.2).bind fun bt16=>((tangent_sweep_give.f k bt14.1 bt14.2.1 bt14.2.2 a1_2 bt16.1 bt16.2.1 bt16.2.2).bind fun bt17=>(some (bt13.2.2.2,bt17.1,bt17.2.1,bt17.2.2))))) else none))) else none) else none) else (if a1_0=8 then (if a2<(s0_0.length:Int) then ((tangent_twice.f k (rd_bLL s0_0 a2).1 (rd_bLL s0_0 a2).2.1 (rd_bLL s0_0 a2).2.2).bind fun bt18=>((tangent_by.f k (rd_bLL s0_1 a2).1 (rd_bLL s0_1 a2).2.1 (rd_bLL s0_1 a2).2.2 bt18.1 bt18.2.1 bt18.2.2 0).bind fun bt19=>((tangent_sweep_give.f k s0_0 s0_1 s0_2 a1_1 bt19.1 bt19.2.1 bt19.2.2.1).bind fun bt20=>(some (bt19.2.2.2,bt20.1,bt20.2.1,bt20.2.2))))) else none) else (if a1_0=9 then (if a2<(s0_0.length:Int) then ((rat_Mul.f k (rd_bLL s0_1 a2).1 (rd_bLL s0_1 a2).2.1 (rd_bLL s0_1 a2).2.2 (rd_bLL s0_0 a2).1 (rd_bLL s0_0 a2).2.1 (rd_bLL s0_0 a2).2.2).bind fun bt21=>((tangent_sweep_give.f k s0_0 s0_1 s0_2 a1_1 bt21.1 bt21.2.1 bt21.2.2).bind fun bt22=>(some (0,bt22.1,bt22.2.1,bt22.2.2)))) else none) else (if a1_0=10 then (if 0≤a1_1 then (if a1_1<(s0_0.length:Int) then ((tangent_by.f k (rd_bLL s0_1 a2).1 (rd_bLL s0_1 a2).2.1 (rd_bLL s0_1 a2).2.2 (rd_bLL s0_0 a1_1).1 (rd_bLL s0_0 a1_1).2.1 (rd_bLL s0_0 a1_1).2.2 0).bind fun bt23=>((tangent_sweep_give.f k s0_0 s0_1 s0_2 a1_1 bt23.1 bt23.2.1 bt23.2.2.1).bind fun bt24=>(some (bt23.2.2.2,bt24.1,bt24.2.1,bt24.2.2)))) else none) else none) else (some (0,s0_0,s0_1,s0_2))))))))))) else none) else none

/-! ### tangent_Back: function by hand -/
mutual
def tangent_Back.l0:Nat→(List (Int × Int × Int × Bool × (List Int) × List Int))→(List (Bool × (List Int) × List Int))→(List (Bool × (List Int) × List Int))→List Int→(List (Bool × (List Int) × List Int))→(List (Bool × (List Int) × List Int))→Int→Int→Option (List (Bool × (List Int) × List Int) × Int × Int)
 | 0,_,_,_,_,_,_,_,_=>none
 | k+1,x0,x1,x2,x3,x4,x30,x31,x32=>if x32<x31 then (if 0≤x32 then (if x32<(x30.length:Int) then ((rat_Right.f k (rd_bLL x30 x32).1 (rd_bLL x30 x32).2.1 (rd_bLL x30 x32).2.2).bind fun t1=>(if t1=true then (tangent_Back.l0 k x0 x1 x2 x3 x4 x30 x31 (wrap64 (x32+1))) else (some (([]:List (Bool × (List Int) × List Int)),0,1)))) else none) else none) else ((evals_Exact.f k x0 x1 x2).bind fun bt2=>(if bt2.2.2=0 then (if 0≤(x0.length:Int) then (if ((x0.length:Int):Int).toNat*56≤281474976710656 then ((line_Inputs.f k x0).bind fun t3=>(if 0≤t3 then (if (t3:Int).toNat*56≤281474976710656 then (tangent_Back.l1 k x0 x3 x4 ((List.replicate ((x0.length:Int):Int).toNat (false,([],[])):List (Bool × (List Int) × List Int)).length:Int) 0 bt2.1 (List.replicate ((x0.length:Int):Int).toNat (false,([],[])):List (Bool × (List Int) × List Int)) (List.replicate (t3:Int).toNat (false,([],[])):List (Bool × (List Int) × List Int))) else none) else none)) else none) else none) else (some (([]:List (Bool × (List Int) × List Int)),bt2.2.1,bt2.2.2))))
def tangent_Back.l1:Nat→(List (Int × Int × Int × Bool × (List Int) × List Int))→List Int→(List (Bool × (List Int) × List Int))→Int→Int→(List (Bool × (List Int) × List Int))→(List (Bool × (List Int) × List Int))→(List (Bool × (List Int) × List Int))→Option (List (Bool × (List Int) × List Int) × Int × Int)
 | 0,_,_,_,_,_,_,_,_=>none
 | k+1,x0,x3,x4,x65,x66,v60_0,v60_1,v60_2=>if x66<x65 then ((rat_Of.f k 0).bind fun bt4=>(if 0≤x66 then (if x66<(v60_1.length:Int) then (tangent_Back.l1 k x0 x3 x4 x65 (wrap64 (x66+1)) v60_0 (v60_1.set (x66:Int).toNat (bt4.1,(bt4.2.1,bt4.2.2))) v60_2) else none) else none)) else (tangent_Back.l2 k x0 x3 x4 (v60_2.length:Int) 0 v60_0 v60_1 v60_2)
def tangent_Back.l2:Nat→(List (Int × Int × Int × Bool × (List Int) × List Int))→List Int→(List (Bool × (List Int) × List Int))→Int→Int→(List (Bool × (List Int) × List Int))→(List (Bool × (List Int) × List Int))→(List (Bool × (List Int) × List Int))→Option (List (Bool × (List Int) × List Int) × Int × Int)
 | 0,_,_,_,_,_,_,_,_=>none
 | k+1,x0,x3,x4,x81,x82,v60_0,v60_1,v60_2=>if x82<x81 then ((rat_Of.f k 0).bind fun bt5=>(if 0≤x82 then (if x82<(v60_2.length:Int) then (tangent_Back.l2 k x0 x3 x4 x81 (wrap64 (x82+1)) v60_0 v60_1 (v60_2.set (x82:Int).toNat (bt5.1,(bt5.2.1,bt5.2.2)))) else none) else none)) else (tangent_Back.l3 k x0 x4 x3 (x3.length:Int) 0 v60_0 v60_1 v60_2)
def tangent_Back.l3:Nat→(List (Int × Int × Int × Bool × (List Int) × List Int))→(List (Bool × (List Int) × List Int))→List Int→Int→Int→(List (Bool × (List Int) × List Int))→(List (Bool × (List Int) × List Int))→(List (Bool × (List Int) × List Int))→Option (List (Bool × (List Int) × List Int) × Int × Int)
 | 0,_,_,_,_,_,_,_,_=>none
 | k+1,x0,x4,x93,x94,x95,v60_0,v60_1,v60_2=>if x95<x94 then (if 0≤x95 then (if x95<(x93.length:Int) then (if (rd x93 x95)<0 then (tangent_Back.j27 k) else (if (rd x93 x95)≥(x0.length:Int) then (tangent_Back.j27 k) else (if x95<(x4.length:Int) then ((tangent_sweep_give.f k v60_0 v60_1 v60_2 (rd x93 x95) (rd_bLL x4 x95).1 (rd_bLL x4 x95).2.1 (rd_bLL x4 x95).2.2).bind fun bt6=>(tangent_Back.l3 k x0 x4 x93 x94 (wrap64 (x95+1)) bt6.1 bt6.2.1 bt6.2.2)) else none))) else none) else none) else (tangent_Back.l4 k x0 (wrap64 ((x0.length:Int)-1)) v60_0 v60_1 v60_2)
def tangent_Back.j27:Nat→Option (List (Bool × (List Int) × List Int) × Int × Int)
 | 0=>none
 | k+1=>some (([]:List (Bool × (List Int) × List Int)),0,11)
def tangent_Back.l4:Nat→(List (Int × Int × Int × Bool × (List Int) × List Int))→Int→(List (Bool × (List Int) × List Int))→(List (Bool × (List Int) × List Int))→(List (Bool × (List Int) × List Int))→Option (List (Bool × (List Int) × List Int) × Int × Int)
 | 0,_,_,_,_,_=>none
 | k+1,x0,x23,v60_0,v60_1,v60_2=>if x23≥0 then (if 0≤x23 then (if x23<(v60_1.length:Int) then ((tangent_size.f k (rd_bLL v60_1 x23).1 (rd_bLL v60_1 x23).2.1 (rd_bLL v60_1 x23).2.2 0).bind fun t7=>(if t7=0 then (if x23<(x0.length:Int) then ((tangent_sweep_step.f k v60_0 v60_1 v60_2 (rd_iiibLL x0 x23).1 (rd_iiibLL x0 x23).2.1 (rd_iiibLL x0 x23).2.2.1 (rd_iiibLL x0 x23).2.2.2.1 (rd_iiibLL x0 x23).2.2.2.2.1 (rd_iiibLL x0 x23).2.2.2.2.2 x23).bind fun bt8=>(tangent_Back.j36 k x0 x23 bt8.1 bt8.2.1 bt8.2.2.1 bt8.2.2.2)) else none) else (tangent_Back.j36 k x0 x23 t7 v60_0 v60_1 v60_2))) else none) else none) else (some (v60_2,0,0))
def tangent_Back.j36:Nat→(List (Int × Int × Int × Bool × (List Int) × List Int))→Int→Int→(List (Bool × (List Int) × List Int))→(List (Bool × (List Int) × List Int))→(List (Bool × (List Int) × List Int))→Option (List (Bool × (List Int) × List Int) × Int × Int)
 | 0,_,_,_,_,_,_=>none
 | k+1,x0,x23,x24,v60_0,v60_1,v60_2=>if x24=0 then (tangent_Back.l4 k x0 (wrap64 (x23-1)) v60_0 v60_1 v60_2) else (some (([]:List (Bool × (List Int) × List Int)),x23,x24))
end
def tangent_Back.f (k:Nat) (a0:List (Int × Int × Int × Bool × (List Int) × List Int)) (a1:List (Bool × (List Int) × List Int)) (a2:List (Bool × (List Int) × List Int)) (a3:List Int) (a4:List (Bool × (List Int) × List Int)):Option (List (Bool × (List Int) × List Int) × Int × Int):=if (a3.length:Int)=(a4.length:Int) then (tangent_Back.l0 k a0 a1 a2 a3 a4 a4 (a4.length:Int) 0) else (some (([]:List (Bool × (List Int) × List Int)),0,1))

/-! ### gr02_Size: function 134 -/
def gr02_Size.l0:Nat→List Int→Int→Option (Int)
 | 0,_,_=>none
 | k+1,x0,x3=>if x3>0 then (if 0≤(wrap64 (x3-1)) then (if (wrap64 (x3-1))<(x0.length:Int) then (if (rd x0 (wrap64 (x3-1)))=0 then (gr02_Size.l0 k x0 (wrap64 (x3-1))) else (some x3)) else (none)) else (none)) else (some x3)
def gr02_Size.f (k:Nat) (l0:List Int):Option (Int):=gr02_Size.l0 k l0 (l0.length:Int)

/-! ### gr02_Trim: function 140 -/
def gr02_Trim.l0:Nat→List Int→List Int→Int→Int→Option (List Int)
 | 0,_,_,_,_=>none
 | k+1,x0,x3,x6,x7=>if x7<x6 then (if 0≤x7 then (if x7<(x0.length:Int) then (if x3.length<17592186044416 then (gr02_Trim.l0 k x0 (x3++ [rd x0 x7]) x6 (wrap64 (x7+1))) else (none)) else (none)) else (none)) else (some x3)
def gr02_Trim.f (k:Nat) (l0:List Int):Option (List Int):=(gr02_Size.f k l0).bind fun t106=>(gr02_Trim.l0 k l0 ([]:List Int) t106 0)

/-! ### gr02_Shl: function 90 -/
mutual
def gr02_Shl.l0:Nat→List Int→Int→List Int→Int→Int→Option (List Int)
 | 0,_,_,_,_,_=>none
 | k+1,x0,x1,x5,x13,x14=>if x14<x13 then (if x5.length<17592186044416 then (gr02_Shl.l0 k x0 x1 (x5++ [0]) x13 (wrap64 (x14+1))) else (none)) else (gr02_Shl.l1 k x0 x1 x5 (x0.length:Int) 0)
def gr02_Shl.l1:Nat→List Int→Int→List Int→Int→Int→Option (List Int)
 | 0,_,_,_,_,_=>none
 | k+1,x0,x1,x5,x21,x22=>if x22<x21 then (if 0≤x22 then (if x22<(x0.length:Int) then (if x5.length<17592186044416 then (gr02_Shl.l1 k x0 x1 (x5++ [rd x0 x22]) x21 (wrap64 (x22+1))) else (none)) else (none)) else (none)) else (if (x1%64)=0 then ((gr02_Trim.f k x5).bind fun t118=>(some t118)) else (if x5.length<17592186044416 then ((some (x5++ [0]:List Int)).bind fun y121=>(gr02_Shl.l2 k y121 (x1%64) (wrap64 ((y121.length:Int)-1)))) else (none)))
def gr02_Shl.l2:Nat→List Int→Int→Int→Option (List Int)
 | 0,_,_,_=>none
 | k+1,x5,x7,x8=>if x8>0 then (if 0≤x8 then (if x8<(x5.length:Int) then (if 0≤(wrap64 (x8-1)) then (if (wrap64 (x8-1))<(x5.length:Int) then (gr02_Shl.l2 k (x5.set (x8:Int).toNat (Go.bits .or .u64 (IntKind.u64.wrap ((rd x5 x8)*2^x7.toNat)) ((rd x5 (wrap64 (x8-1)))/2^(64-x7).toNat))) x7 (wrap64 (x8-1))) else (none)) else (none)) else (none)) else (none)) else (if 0<(x5.length:Int) then ((gr02_Trim.f k (x5.set (0:Int).toNat (IntKind.u64.wrap ((rd x5 0)*2^x7.toNat)))).bind fun t129=>(some t129)) else (none))
end
def gr02_Shl.f (k:Nat) (l0:List Int) (a1:Int):Option (List Int):=gr02_Shl.l0 k l0 (mn (mx a1 0) 65536) ([]:List Int) ((mn (mx a1 0) 65536)/64) 0

/-! ### gr02_Shr: function 100 -/
mutual
def gr02_Shr.l0:Nat→List Int→Int→List Int→Int→Option (List Int)
 | 0,_,_,_,_=>none
 | k+1,x0,x1,x5,x6=>if x6<(x0.length:Int) then (if 0≤x6 then (if x5.length<17592186044416 then (gr02_Shr.l0 k x0 x1 (x5++ [rd x0 x6]) (wrap64 (x6+1))) else (none)) else (none)) else (if (x1%64)=0 then ((gr02_Trim.f k x5).bind fun t136=>(some t136)) else (gr02_Shr.l1 k x5 (x1%64) (x5.length:Int) 0))
def gr02_Shr.l1:Nat→List Int→Int→Int→Int→Option (List Int)
 | 0,_,_,_,_=>none
 | k+1,x5,x7,x35,x36=>if x36<x35 then (if 0≤x36 then (if x36<(x5.length:Int) then ((some (x5.set (x36:Int).toNat ((rd x5 x36)/2^x7.toNat):List Int)).bind fun y140=>(if (wrap64 (x36+1))<(x5.length:Int) then (if 0≤(wrap64 (x36+1)) then (gr02_Shr.l1 k (y140.set (x36:Int).toNat (Go.bits .or .u64 (rd y140 x36) (IntKind.u64.wrap ((rd y140 (wrap64 (x36+1)))*2^(64-x7).toNat)))) x7 x35 (wrap64 (x36+1))) else (none)) else (gr02_Shr.l1 k y140 x7 x35 (wrap64 (x36+1))))) else (none)) else (none)) else ((gr02_Trim.f k x5).bind fun t144=>(some t144))
end
def gr02_Shr.f (k:Nat) (l0:List Int) (a1:Int):Option (List Int):=gr02_Shr.l0 k l0 (mx a1 0) ([]:List Int) (wrap64 ((mx a1 0)/64))

/-! ### gr02_Halves: function 143 -/
def gr02_Halves.l0:Nat→List Int→List Int→Int→Int→Option (List Int)
 | 0,_,_,_,_=>none
 | k+1,x0,x3,x6,x7=>if x7<x6 then (if 0≤x7 then (if x7<(x0.length:Int) then (if x3.length<17592186044416 then ((some (x3++ [Go.bits .and .u64 (rd x0 x7) 4294967295]:List Int)).bind fun y151=>(if y151.length<17592186044416 then (gr02_Halves.l0 k x0 (y151++ [(rd x0 x7)/4294967296]) x6 (wrap64 (x7+1))) else (none))) else (none)) else (none)) else (none)) else ((gr02_Trim.f k x3).bind fun t158=>(some t158))
def gr02_Halves.f (k:Nat) (l0:List Int):Option (List Int):=gr02_Halves.l0 k l0 ([]:List Int) (l0.length:Int) 0

/-! ### gr02_at: function 144 -/
def gr02_at.f (l0:List Int) (a1:Int):Option (Int):=if a1<0 then (some 0) else (if a1≥(l0.length:Int) then (some 0) else (if 0≤a1 then (if a1<(l0.length:Int) then (some (rd l0 a1)) else (none)) else (none)))

/-! ### gr02_Whole: function 145 -/
def gr02_Whole.l0:Nat→List Int→List Int→Int→Option (List Int)
 | 0,_,_,_=>none
 | k+1,x0,x3,x4=>if x4<(x0.length:Int) then (if 0≤x4 then (if (wrap64 (x4+1))<(x0.length:Int) then (if 0≤(wrap64 (x4+1)) then (if x3.length<17592186044416 then (gr02_Whole.l0 k x0 (x3++ [Go.bits .or .u64 (rd x0 x4) (IntKind.u64.wrap ((rd x0 (wrap64 (x4+1)))*4294967296))]) (wrap64 (x4+2))) else (none)) else (none)) else (if x3.length<17592186044416 then (gr02_Whole.l0 k x0 (x3++ [rd x0 x4]) (wrap64 (x4+2))) else (none))) else (none)) else ((gr02_Trim.f k x3).bind fun t170=>(some t170))
def gr02_Whole.f (k:Nat) (l0:List Int):Option (List Int):=gr02_Whole.l0 k l0 ([]:List Int) 0

/-! ### gr02_Sub: function 102 -/
def gr02_Sub.l0:Nat→List Int→List Int→List Int→Int→Int→Int→Option (List Int)
 | 0,_,_,_,_,_,_=>none
 | k+1,x5,x6,x7,x8,x16,x17=>if x17<x16 then (if 0≤x17 then (if x17<(x5.length:Int) then ((gr02_at.f x6 x17).bind fun t180=>(if x7.length<17592186044416 then (gr02_Sub.l0 k x5 x6 (x7++ [Go.bits .and .u64 (IntKind.u64.wrap ((IntKind.u64.wrap ((IntKind.u64.wrap (4294967296+(rd x5 x17)))-t180))-x8)) 4294967295]) (IntKind.u64.wrap (1-((IntKind.u64.wrap ((IntKind.u64.wrap ((IntKind.u64.wrap (4294967296+(rd x5 x17)))-t180))-x8))/4294967296))) x16 (wrap64 (x17+1))) else (none))) else (none)) else (none)) else ((gr02_Whole.f k x7).bind fun t184=>(some t184))
def gr02_Sub.f (k:Nat) (l0:List Int) (l1:List Int):Option (List Int):=(gr02_Halves.f k l0).bind fun t173=>((gr02_Halves.f k l1).bind fun t176=>(gr02_Sub.l0 k t173 t176 ([]:List Int) 0 (t173.length:Int) 0))

/-! ### gr02_Cmp: function 103 -/
def gr02_Cmp.l0:Nat→List Int→List Int→Int→Option (Int)
 | 0,_,_,_=>none
 | k+1,x0,x1,x6=>if x6≥0 then ((gr02_at.f x0 x6).bind fun t187=>((gr02_at.f x1 x6).bind fun t188=>(if t187<t188 then (some (-1)) else (if t187>t188 then (some 1) else (gr02_Cmp.l0 k x0 x1 (wrap64 (x6-1))))))) else (some 0)
def gr02_Cmp.f (k:Nat) (l0:List Int) (l1:List Int):Option (Int):=gr02_Cmp.l0 k l0 l1 (wrap64 ((mx (l0.length:Int) (l1.length:Int))-1))

/-! ### gr02_Bit: function 141 -/
def gr02_Bit.f (l0:List Int) (a1:Int):Option (Bool):=if a1≥0 then (if (wrap64 (Int.tdiv a1 64))<(l0.length:Int) then (if 0≤(wrap64 (Int.tdiv a1 64)) then (if 0≤(IntKind.u64.wrap (Int.tmod a1 64)) then (some ((Go.bits .and .u64 (shr .u64 (rd l0 (wrap64 (Int.tdiv a1 64))) (IntKind.u64.wrap (Int.tmod a1 64))) 1)==1)) else (none)) else (none)) else (some false)) else (some false)

/-! ### gr02_Even: function 156 -/
def gr02_Even.l0:Nat→List Int→Int→Option (Int)
 | 0,_,_=>none
 | k+1,x0,x3=>(gr02_Bit.f x0 x3).bind fun t402=>(if t402=true then (some x3) else (gr02_Even.l0 k x0 (wrap64 (x3+1))))
def gr02_Even.f (k:Nat) (l0:List Int):Option (Int):=(gr02_Size.f k l0).bind fun t401=>(if t401=0 then (some 0) else (gr02_Even.l0 k l0 0))

/-! ### gr05_Gcd: function 135 -/
mutual
def gr05_Gcd.j0:Nat→List Int→List Int→Bool→Option (List Int)
 | 0,_,_,_=>none
 | k+1,x0,x1,x28=>if x28=true then (if 0<(x0.length:Int) then (if 0<(x1.length:Int) then (gr05_Gcd.l0 k (rd x0 0) (rd x1 0)) else (none)) else (none)) else ((gr02_Even.f k x0).bind fun t418=>((gr02_Even.f k x1).bind fun t419=>((gr02_Even.f k x0).bind fun t420=>((gr02_Shr.f k x0 t420).bind fun t421=>((gr02_Even.f k x1).bind fun t424=>((gr02_Shr.f k x1 t424).bind fun t425=>(gr05_Gcd.l1 k (mn t418 t419) t421 t425)))))))
def gr05_Gcd.l0:Nat→Int→Int→Option (List Int)
 | 0,_,_=>none
 | k+1,x5,x6=>if x6>0 then (if x6=0 then (none) else (gr05_Gcd.l0 k x6 (Int.tmod x5 x6))) else (some (([x5]:List Int)))
def gr05_Gcd.l1:Nat→Int→List Int→List Int→Option (List Int)
 | 0,_,_,_=>none
 | k+1,x7,x8,x9=>(gr02_Cmp.f k x8 x9).bind fun t428=>(if t428=0 then ((gr02_Shl.f k x8 x7).bind fun t429=>(some t429)) else (if t428<0 then ((gr02_Sub.f k x9 x8).bind fun t432=>((gr02_Even.f k t432).bind fun t435=>((gr02_Shr.f k t432 t435).bind fun t436=>(gr05_Gcd.l1 k x7 t436 x8)))) else ((gr02_Sub.f k x8 x9).bind fun t439=>((gr02_Even.f k t439).bind fun t442=>((gr02_Shr.f k t439 t442).bind fun t443=>(gr05_Gcd.l1 k x7 t443 x9))))))
end
def gr05_Gcd.f (k:Nat) (l0:List Int) (l1:List Int):Option (List Int):=(gr02_Size.f k l0).bind fun t403=>(if t403=0 then ((gr02_Trim.f k l1).bind fun t404=>(some t404)) else ((gr02_Size.f k l1).bind fun t407=>(if t407=0 then ((gr02_Trim.f k l0).bind fun t408=>(some t408)) else ((gr02_Size.f k l0).bind fun t411=>(if t411=1 then ((gr02_Size.f k l1).bind fun t412=>(gr05_Gcd.j0 k l0 l1 (t412==1))) else (gr05_Gcd.j0 k l0 l1 false))))))

/-! ### gr01_Len: function 142 -/
def gr01_Len.l0:Nat→Int→Int→Option (Int)
 | 0,_,_=>none
 | k+1,x0,x3=>if x0>0 then (gr01_Len.l0 k (x0/2) (wrap64 (x3+1))) else (some x3)
def gr01_Len.f (k:Nat) (a0:Int):Option (Int):=gr01_Len.l0 k a0 0

/-! ### gr02_Bits: function 101 -/
def gr02_Bits.f (k:Nat) (l0:List Int):Option (Int):=(gr02_Size.f k l0).bind fun t147=>(if t147=0 then (some 0) else (if 0≤(wrap64 (t147-1)) then (if (wrap64 (t147-1))<(l0.length:Int) then ((gr01_Len.f k (rd l0 (wrap64 (t147-1)))).bind fun t149=>(some (wrap64 ((wrap64 ((wrap64 (64*t147))-64))+t149)))) else (none)) else (none)))

/-! ### gr04_set: function 151 -/
def gr04_set.l0:Nat→List Int→Int→List Int→Int→Int→Option (List Int)
 | 0,_,_,_,_,_=>none
 | k+1,x0,x1,x5,x13,x14=>if x14<x13 then (if x14<(x0.length:Int) then (if 0≤x14 then (if x14=(wrap64 (Int.tdiv x1 64)) then (if 0≤(IntKind.u64.wrap (Int.tmod x1 64)) then (if x5.length<17592186044416 then (gr04_set.l0 k x0 x1 (x5++ [Go.bits .or .u64 (rd x0 x14) (shl .u64 1 (IntKind.u64.wrap (Int.tmod x1 64)))]) x13 (wrap64 (x14+1))) else (none)) else (none)) else (if x5.length<17592186044416 then (gr04_set.l0 k x0 x1 (x5++ [rd x0 x14]) x13 (wrap64 (x14+1))) else (none))) else (none)) else (if x14=(wrap64 (Int.tdiv x1 64)) then (if 0≤(IntKind.u64.wrap (Int.tmod x1 64)) then (if x5.length<17592186044416 then (gr04_set.l0 k x0 x1 (x5++ [Go.bits .or .u64 0 (shl .u64 1 (IntKind.u64.wrap (Int.tmod x1 64)))]) x13 (wrap64 (x14+1))) else (none)) else (none)) else (if x5.length<17592186044416 then (gr04_set.l0 k x0 x1 (x5++ [0]) x13 (wrap64 (x14+1))) else (none)))) else (some x5)
def gr04_set.f (k:Nat) (l0:List Int) (a1:Int):Option (List Int):=gr04_set.l0 k l0 a1 ([]:List Int) (mx (l0.length:Int) (wrap64 ((wrap64 (Int.tdiv a1 64))+1))) 0

/-! ### gr04_Div: function 139 -/
mutual
def gr04_Div.j0:Nat→List Int→List Int→List Int→Bool→Option (List Int × List Int)
 | 0,_,_,_,_=>none
 | k+1,x0,x1,x6,x18=>if x18=true then (if 0<(x0.length:Int) then (if 0<(x1.length:Int) then (if (rd x1 0)=0 then (none) else ((gr02_Trim.f k (([IntKind.u64.wrap (Int.tdiv (rd x0 0) (rd x1 0))]:List Int))).bind fun t466=>((gr02_Trim.f k (([Int.tmod (rd x0 0) (rd x1 0)]:List Int))).bind fun t474=>(some (t466,t474))))) else (none)) else (none)) else ((gr02_Bits.f k x0).bind fun t477=>((gr02_Bits.f k x1).bind fun t478=>((gr02_Shr.f k x0 (mx 0 (wrap64 ((wrap64 (t477-t478))+1)))).bind fun t479=>(gr04_Div.l0 k x0 x1 x6 t479 (wrap64 ((mx 0 (wrap64 ((wrap64 (t477-t478))+1)))-1))))))
def gr04_Div.l0:Nat→List Int→List Int→List Int→List Int→Int→Option (List Int × List Int)
 | 0,_,_,_,_,_=>none
 | k+1,x0,x1,x6,x7,x10=>if x10≥0 then ((gr02_Shl.f k x7 1).bind fun t488=>((gr02_Bit.f x0 x10).bind fun t491=>(if t491=true then ((gr04_set.f k t488 0).bind fun t492=>(gr04_Div.j2 k x0 x1 x6 t492 x10)) else (gr04_Div.j2 k x0 x1 x6 t488 x10)))) else ((gr02_Trim.f k x6).bind fun t482=>((gr02_Trim.f k x7).bind fun t485=>(some (t482,t485))))
def gr04_Div.j2:Nat→List Int→List Int→List Int→List Int→Int→Option (List Int × List Int)
 | 0,_,_,_,_,_=>none
 | k+1,x0,x1,x6,x7,x10=>(gr02_Cmp.f k x7 x1).bind fun t495=>(if t495≥0 then ((gr02_Sub.f k x7 x1).bind fun t496=>((gr04_set.f k x6 x10).bind fun t499=>(gr04_Div.l0 k x0 x1 t499 t496 (wrap64 (x10-1))))) else (gr04_Div.l0 k x0 x1 x6 x7 (wrap64 (x10-1))))
end
def gr04_Div.f (k:Nat) (l0:List Int) (l1:List Int):Option (List Int × List Int):=(gr02_Size.f k l0).bind fun t459=>(if t459=1 then ((gr02_Size.f k l1).bind fun t460=>(gr04_Div.j0 k l0 l1 ([]:List Int) (t460==1))) else (gr04_Div.j0 k l0 l1 ([]:List Int) false))

/-! ### gr05_Part: function 136 -/
def gr05_Part.f (k:Nat) (l0:List Int) (l1:List Int):Option (List Int):=(gr02_Size.f k l1).bind fun t502=>(if t502=0 then (some ([]:List Int)) else ((gr02_Cmp.f k l1 (([1]:List Int))).bind fun t506=>(if t506=0 then ((gr02_Trim.f k l0).bind fun t507=>(some t507)) else ((gr04_Div.f k l0 l1).bind fun bt510=>(some bt510.1)))))

/-! ### gr07_Make: function 81 -/
def gr07_Make.f (k:Nat) (a0:Bool) (l1:List Int) (l2:List Int):Option (Bool × List Int × List Int):=(gr02_Size.f k l1).bind fun t517=>(if t517=0 then (some (false,([]:List Int),(([1]:List Int)))) else ((gr05_Gcd.f k l1 l2).bind fun t521=>((gr05_Part.f k l1 t521).bind fun t524=>((gr05_Part.f k l2 t521).bind fun t527=>(some (a0,t524,t527))))))

/-! ### gr07_Of: function 119 -/
def gr07_Of.f (k:Nat) (a0:Int):Option (Bool × List Int × List Int):=if a0<0 then ((gr07_Make.f k true (([IntKind.u64.wrap (-(IntKind.u64.wrap (a0)))]:List Int)) (([1]:List Int))).bind fun bt537=>(some (bt537.1,bt537.2.1,bt537.2.2))) else ((gr07_Make.f k false (([IntKind.u64.wrap (a0)]:List Int)) (([1]:List Int))).bind fun bt550=>(some (bt550.1,bt550.2.1,bt550.2.2)))

/-! ### gr07_Words: function 109 -/
def gr07_Words.l0:Nat→List Int→List Int→Int→Int→Option (Bool)
 | 0,_,_,_,_=>none
 | k+1,x0,x1,x12,x13=>if x13<x12 then (if 0≤x13 then (if x13<(x0.length:Int) then (if x13<(x1.length:Int) then (if (rd x0 x13)=(rd x1 x13) then (gr07_Words.l0 k x0 x1 x12 (wrap64 (x13+1))) else (some false)) else (none)) else (none)) else (none)) else (some true)
def gr07_Words.f (k:Nat) (l0:List Int) (l1:List Int):Option (Bool):=if (l0.length:Int)=(l1.length:Int) then (gr07_Words.l0 k l0 l1 (l0.length:Int) 0) else (some false)

/-! ### gr07_Same: function 61 -/
def gr07_Same.f (k:Nat) (a0_0:Bool) (l0_1:List Int) (l0_2:List Int) (a1_0:Bool) (l1_1:List Int) (l1_2:List Int):Option (Bool):=if (a0_0==a1_0)=true then ((gr07_Words.f k l0_1 l1_1).bind fun t706=>(if t706=true then ((gr07_Words.f k l0_2 l1_2).bind fun t707=>(some t707)) else (some false))) else (some false)

/-! ### gr02_Right: function 152 -/
def gr02_Right.f (k:Nat) (l0:List Int):Option (Bool):=(gr02_Size.f k l0).bind fun t709=>(some (t709==(l0.length:Int)))

/-! ### gr07_Right: function 131 -/
def gr07_Right.j0 (k:Nat) (x28:Bool) (x711000:Bool) (x711001:List Int) (x711002:List Int):Option (Bool):=if x28=true then (some false) else ((gr05_Gcd.f k x711001 x711002).bind fun t713=>((gr02_Cmp.f k t713 (([1]:List Int))).bind fun t719=>(some (t719==0))))
def gr07_Right.f (k:Nat) (a0_0:Bool) (l0_1:List Int) (l0_2:List Int):Option (Bool):=(gr02_Right.f k l0_1).bind fun t711=>(if t711=true then ((gr02_Right.f k l0_2).bind fun t712=>(if t712=true then (if (l0_2.length:Int)=0 then (gr07_Right.j0 k true a0_0 l0_1 l0_2) else (if a0_0=true then (gr07_Right.j0 k ((l0_1.length:Int)==0) a0_0 l0_1 l0_2) else (gr07_Right.j0 k false a0_0 l0_1 l0_2))) else (gr07_Right.j0 k true a0_0 l0_1 l0_2))) else (gr07_Right.j0 k true a0_0 l0_1 l0_2))

/-! ### gr16_Rats: function by hand -/
def gr16_Rats.l0:Nat→(List (Bool × (List Int) × List Int))→Int→Int→Option (Bool)
 | 0,_,_,_=>none
 | k+1,x0,x5,x6=>if x6<x5 then (if 0≤x6 then (if x6<(x0.length:Int) then ((gr07_Right.f k (rd_bLL x0 x6).1 (rd_bLL x0 x6).2.1 (rd_bLL x0 x6).2.2).bind fun t1=>(if t1=true then (gr16_Rats.l0 k x0 x5 (wrap64 (x6+1))) else (some false))) else none) else none) else (some true)
def gr16_Rats.f (k:Nat) (a0:List (Bool × (List Int) × List Int)):Option (Bool):=gr16_Rats.l0 k a0 (a0.length:Int) 0

/-! ### gr02_Add: function 108 -/
def gr02_Add.l0:Nat→List Int→List Int→List Int→Int→Int→Int→Option (List Int)
 | 0,_,_,_,_,_,_=>none
 | k+1,x5,x6,x7,x8,x19,x20=>if x20<x19 then ((gr02_at.f x5 x20).bind fun t195=>((gr02_at.f x6 x20).bind fun t196=>(if x7.length<17592186044416 then (gr02_Add.l0 k x5 x6 (x7++ [Go.bits .and .u64 (IntKind.u64.wrap ((IntKind.u64.wrap (x8+t195))+t196)) 4294967295]) ((IntKind.u64.wrap ((IntKind.u64.wrap (x8+t195))+t196))/4294967296) x19 (wrap64 (x20+1))) else (none)))) else ((gr02_Whole.f k x7).bind fun t200=>(some t200))
def gr02_Add.f (k:Nat) (l0:List Int) (l1:List Int):Option (List Int):=(gr02_Halves.f k l0).bind fun t189=>((gr02_Halves.f k l1).bind fun t192=>(gr02_Add.l0 k t189 t192 ([]:List Int) 0 (wrap64 ((mx (t189.length:Int) (t192.length:Int))+1)) 0))

/-! ### gr03_Mul: function 107 -/
mutual
def gr03_Mul.l0:Nat→List Int→List Int→List Int→Int→Int→Option (List Int)
 | 0,_,_,_,_,_=>none
 | k+1,x5,x6,x7,x23,x24=>if x24<x23 then (gr03_Mul.l1 k x5 x6 x7 x24 0 x23 x24 (x6.length:Int) 0) else ((gr02_Whole.f k x7).bind fun t583=>(some t583))
def gr03_Mul.l1:Nat→List Int→List Int→List Int→Int→Int→Int→Int→Int→Int→Option (List Int)
 | 0,_,_,_,_,_,_,_,_,_=>none
 | k+1,x5,x6,x7,x8,x9,x23,x24,x28,x29=>if x29<x28 then (if 0≤x8 then (if x8<(x5.length:Int) then (if 0≤x29 then (if x29<(x6.length:Int) then (if 0≤(wrap64 (x8+x29)) then (if (wrap64 (x8+x29))<(x7.length:Int) then (gr03_Mul.l1 k x5 x6 (x7.set ((wrap64 (x8+x29)):Int).toNat (Go.bits .and .u64 (IntKind.u64.wrap ((IntKind.u64.wrap (x9+(IntKind.u64.wrap ((rd x5 x8)*(rd x6 x29)))))+(rd x7 (wrap64 (x8+x29))))) 4294967295)) x8 ((IntKind.u64.wrap ((IntKind.u64.wrap (x9+(IntKind.u64.wrap ((rd x5 x8)*(rd x6 x29)))))+(rd x7 (wrap64 (x8+x29)))))/4294967296) x23 x24 x28 (wrap64 (x29+1))) else (none)) else (none)) else (none)) else (none)) else (none)) else (none)) else (if 0≤(wrap64 (x8+(x6.length:Int))) then (if (wrap64 (x8+(x6.length:Int)))<(x7.length:Int) then (gr03_Mul.l0 k x5 x6 (x7.set ((wrap64 (x8+(x6.length:Int))):Int).toNat x9) x23 (wrap64 (x24+1))) else (none)) else (none))
end
def gr03_Mul.f (k:Nat) (l0:List Int) (l1:List Int):Option (List Int):=(gr02_Halves.f k l0).bind fun t574=>((gr02_Halves.f k l1).bind fun t577=>(if 0≤(wrap64 ((wrap64 ((t574.length:Int)+(t577.length:Int)))+1)) then (if (wrap64 ((wrap64 ((t574.length:Int)+(t577.length:Int)))+1):Int).toNat≤35184372088832 then (gr03_Mul.l0 k t574 t577 (List.replicate (wrap64 ((wrap64 ((t574.length:Int)+(t577.length:Int)))+1):Int).toNat 0) (t574.length:Int) 0) else (none)) else (none)))

/-! ### gr07_Add: function 60 -/
def gr07_Add.f (k:Nat) (a0_0:Bool) (l0_1:List Int) (l0_2:List Int) (a1_0:Bool) (l1_1:List Int) (l1_2:List Int):Option (Bool × List Int × List Int):=(gr03_Mul.f k l0_1 l1_2).bind fun t594=>((gr03_Mul.f k l1_1 l0_2).bind fun t597=>((gr03_Mul.f k l0_2 l1_2).bind fun t600=>(if (a0_0==a1_0)=true then ((gr02_Add.f k t594 t597).bind fun t603=>((gr07_Make.f k a0_0 t603 t600).bind fun bt606=>(some (bt606.1,bt606.2.1,bt606.2.2)))) else ((gr02_Cmp.f k t594 t597).bind fun t613=>(if t613≥0 then ((gr02_Sub.f k t594 t597).bind fun t614=>((gr07_Make.f k a0_0 t614 t600).bind fun bt617=>(some (bt617.1,bt617.2.1,bt617.2.2)))) else ((gr02_Sub.f k t597 t594).bind fun t624=>((gr07_Make.f k a1_0 t624 t600).bind fun bt627=>(some (bt627.1,bt627.2.1,bt627.2.2)))))))))

/-! ### gr07_Mul: function 117 -/
def gr07_Mul.f (k:Nat) (a0_0:Bool) (l0_1:List Int) (l0_2:List Int) (a1_0:Bool) (l1_1:List Int) (l1_2:List Int):Option (Bool × List Int × List Int):=(gr03_Mul.f k l0_1 l1_1).bind fun t1120=>((gr03_Mul.f k l0_2 l1_2).bind fun t1123=>((gr07_Make.f k (a0_0 !=a1_0) t1120 t1123).bind fun bt1126=>(some (bt1126.1,bt1126.2.1,bt1126.2.2))))

/-! ### rat_Same: function 106 -/
mutual
def rat_Same.j0:Nat→Bool→Bool→List Int→List Int→Bool→List Int→List Int→Option (Bool)
 | 0,_,_,_,_,_,_,_=>none
 | k+1,x31,x854000,x854001,x854002,x855000,x855001,x855002=>if x31=true then (some false) else (rat_Same.l0 k x854001 (x854001.length:Int) 0 x854000 x854001 x854002 x855000 x855001 x855002)
def rat_Same.l0:Nat→List Int→Int→Int→Bool→List Int→List Int→Bool→List Int→List Int→Option (Bool)
 | 0,_,_,_,_,_,_,_,_,_=>none
 | k+1,x33,x34,x35,x854000,x854001,x854002,x855000,x855001,x855002=>if x35<x34 then (if 0≤x35 then (if x35<(x33.length:Int) then (if x35<(x855001.length:Int) then (if (rd x33 x35)=(rd x855001 x35) then (rat_Same.l0 k x33 x34 (wrap64 (x35+1)) x854000 x854001 x854002 x855000 x855001 x855002) else (some false)) else (none)) else (none)) else (none)) else (rat_Same.l1 k x854002 (x854002.length:Int) 0 x855000 x855001 x855002)
def rat_Same.l1:Nat→List Int→Int→Int→Bool→List Int→List Int→Option (Bool)
 | 0,_,_,_,_,_,_=>none
 | k+1,x49,x50,x51,x855000,x855001,x855002=>if x51<x50 then (if 0≤x51 then (if x51<(x49.length:Int) then (if x51<(x855002.length:Int) then (if (rd x49 x51)=(rd x855002 x51) then (rat_Same.l1 k x49 x50 (wrap64 (x51+1)) x855000 x855001 x855002) else (some false)) else (none)) else (none)) else (none)) else (some true)
end
def rat_Same.f (k:Nat) (a0_0:Bool) (l0_1:List Int) (l0_2:List Int) (a1_0:Bool) (l1_1:List Int) (l1_2:List Int):Option (Bool):=if (a0_0 !=a1_0)=true then (rat_Same.j0 k true a0_0 l0_1 l0_2 a1_0 l1_1 l1_2) else (if (l0_1.length:Int)=(l1_1.length:Int) then (rat_Same.j0 k ((l0_2.length:Int) !=(l1_2.length:Int)) a0_0 l0_1 l0_2 a1_0 l1_1 l1_2) else (rat_Same.j0 k true a0_0 l0_1 l0_2 a1_0 l1_1 l1_2))

/-! ### gr07_Div: function 111 -/
def gr07_Div.f (k:Nat) (a0_0:Bool) (l0_1:List Int) (l0_2:List Int) (a1_0:Bool) (l1_1:List Int) (l1_2:List Int):Option (Bool × List Int × List Int):=(gr03_Mul.f k l0_1 l1_2).bind fun t989=>((gr03_Mul.f k l0_2 l1_1).bind fun t992=>((gr07_Make.f k (a0_0 !=a1_0) t989 t992).bind fun bt995=>(some (bt995.1,bt995.2.1,bt995.2.2))))

/-! ### gr07_Neg: function 110 -/
def gr07_Neg.f (k:Nat) (a0_0:Bool) (l0_1:List Int) (l0_2:List Int):Option (Bool × List Int × List Int):=(gr07_Make.f k (!a0_0) l0_1 l0_2).bind fun bt636=>(some (bt636.1,bt636.2.1,bt636.2.2))

/-! ### gr07_Sub: function 62 -/
def gr07_Sub.f (k:Nat) (a0_0:Bool) (l0_1:List Int) (l0_2:List Int) (a1_0:Bool) (l1_1:List Int) (l1_2:List Int):Option (Bool × List Int × List Int):=(gr07_Neg.f k a1_0 l1_1 l1_2).bind fun bt646=>((gr07_Add.f k a0_0 l0_1 l0_2 bt646.1 bt646.2.1 bt646.2.2).bind fun bt653=>(some (bt653.1,bt653.2.1,bt653.2.2)))

/-! ### gr07_Zero: function 138 -/
def gr07_Zero.f (a0_0:Bool) (l0_1:List Int) (l0_2:List Int):Option (Bool):=some ((l0_1.length:Int)==0)

/-! ### gr08_Bits: function 133 -/
def gr08_Bits.f (k:Nat) (a0_0:Bool) (l0_1:List Int) (l0_2:List Int):Option (Int):=(gr02_Bits.f k l0_1).bind fun t1838=>((gr02_Bits.f k l0_2).bind fun t1839=>(some (mx t1838 t1839)))

/-! ### gr15_Arity: function 70 -/
mutual
def gr15_Arity.j0:Nat→Int→Bool→Option (Int)
 | 0,_,_=>none
 | k+1,x0,x8=>if x8=true then (some 0) else (if x0=3 then (gr15_Arity.j1 k x0 true) else (if x0≥8 then (gr15_Arity.j1 k x0 (decide (x0≤10))) else (gr15_Arity.j1 k x0 false)))
def gr15_Arity.j1:Nat→Int→Bool→Option (Int)
 | 0,_,_=>none
 | k+1,x0,x18=>if x18=true then (some 1) else (if x0≥4 then (if x0≤7 then (some 2) else (some (-1))) else (some (-1)))
end
def gr15_Arity.f (k:Nat) (a0:Int):Option (Int):=if a0=1 then (gr15_Arity.j0 k a0 true) else (gr15_Arity.j0 k a0 (a0==2))

/-! ### gr15_None: function 167 -/
def gr15_None.f (k:Nat) (a0_0:Bool) (l0_1:List Int) (l0_2:List Int):Option (Bool):=(gr07_Same.f k a0_0 l0_1 l0_2 false ([]:List Int) ([]:List Int)).bind fun t1048=>(some t1048)

/-! ### gr15_Fits: function 92 -/
def gr15_Fits.f (k:Nat) (a0_0:Int) (a0_1:Int) (a0_2:Int) (a0_3:Bool) (l0_4:List Int) (l0_5:List Int) (a1:Int):Option (Bool):=if a0_0=2 then (if a0_1=0 then (if a0_2=0 then ((gr07_Right.f k a0_3 l0_4 l0_5).bind fun t1050=>(some t1050)) else (some false)) else (some false)) else ((gr15_None.f k a0_3 l0_4 l0_5).bind fun t1051=>(if t1051=true then (if a0_0=1 then (if a0_1≥0 then (if a0_1<65536 then (some (a0_2==0)) else (some false)) else (some false)) else ((gr15_Arity.f k a0_0).bind fun t1052=>(if t1052=1 then (if a0_1≥0 then (if a0_1<a1 then (some (a0_2==0)) else (some false)) else (some false)) else ((gr15_Arity.f k a0_0).bind fun t1053=>(if t1053=2 then (if a0_1≥0 then (if a0_1<a1 then (if a0_2≥0 then (some (decide (a0_2<a1))) else (some false)) else (some false)) else (some false)) else (some false)))))) else (some false)))

/-! ### gr15_Form: function 66 -/
def gr15_Form.f (a0:Int):Option (Bool):=if a0≥8 then (some (decide (a0≤10))) else (some false)

/-! ### gr15_Right: function by hand -/
def gr15_Right.l0:Nat→(List (Int × Int × Int × Bool × (List Int) × List Int))→Int→Int→Option (Bool)
 | 0,_,_,_=>none
 | k+1,x0,x5,x6=>if x6<x5 then (if 0≤x6 then (if x6<(x0.length:Int) then ((gr15_Fits.f k (rd_iiibLL x0 x6).1 (rd_iiibLL x0 x6).2.1 (rd_iiibLL x0 x6).2.2.1 (rd_iiibLL x0 x6).2.2.2.1 (rd_iiibLL x0 x6).2.2.2.2.1 (rd_iiibLL x0 x6).2.2.2.2.2 x6).bind fun t1=>(if t1=true then (gr15_Right.l0 k x0 x5 (wrap64 (x6+1))) else (some false))) else none) else none) else (some (decide ((x0.length:Int)≤65536)))
def gr15_Right.f (k:Nat) (a0:List (Int × Int × Int × Bool × (List Int) × List Int)):Option (Bool):=gr15_Right.l0 k a0 (a0.length:Int) 0

/-! ### gr16_step: function by hand -/
def gr16_step.f (k:Nat) (a0_0:Int) (a0_1:Int) (a0_2:Int) (a0_3:Bool) (a0_4:List Int) (a0_5:List Int) (l1:List (Bool × (List Int) × List Int)):Option (Bool × List Int × List Int × Int × List (Bool × (List Int) × List Int)):=if 0≤a0_1 then (if a0_1<(l1.length:Int) then (if a0_0=3 then ((gr07_Neg.f k (rd_bLL l1 a0_1).1 (rd_bLL l1 a0_1).2.1 (rd_bLL l1 a0_1).2.2).bind fun bt1=>(some (bt1.1,bt1.2.1,bt1.2.2,0,l1))) else (if 0≤a0_2 then (if a0_2<(l1.length:Int) then (if a0_0=4 then ((gr07_Add.f k (rd_bLL l1 a0_1).1 (rd_bLL l1 a0_1).2.1 (rd_bLL l1 a0_1).2.2 (rd_bLL l1 a0_2).1 (rd_bLL l1 a0_2).2.1 (rd_bLL l1 a0_2).2.2).bind fun bt2=>(some (bt2.1,bt2.2.1,bt2.2.2,0,l1))) else (if a0_0=5 then ((gr07_Sub.f k (rd_bLL l1 a0_1).1 (rd_bLL l1 a0_1).2.1 (rd_bLL l1 a0_1).2.2 (rd_bLL l1 a0_2).1 (rd_bLL l1 a0_2).2.1 (rd_bLL l1 a0_2).2.2).bind fun bt3=>(some (bt3.1,bt3.2.1,bt3.2.2,0,l1))) else (if a0_0=6 then ((gr07_Mul.f k (rd_bLL l1 a0_1).1 (rd_bLL l1 a0_1).2.1 (rd_bLL l1 a0_1).2.2 (rd_bLL l1 a0_2).1 (rd_bLL l1 a0_2).2.1 (rd_bLL l1 a0_2).2.2).bind fun bt4=>(some (bt4.1,bt4.2.1,bt4.2.2,0,l1))) else ((gr07_Zero.f (rd_bLL l1 a0_2).1 (rd_bLL l1 a0_2).2.1 (rd_bLL l1 a0_2).2.2).bind fun t5=>(if t5=true then (some (false,([]:List Int),([]:List Int),4,l1)) else ((gr07_Div.f k (rd_bLL l1 a0_1).1 (rd_bLL l1 a0_1).2.1 (rd_bLL l1 a0_1).2.2 (rd_bLL l1 a0_2).1 (rd_bLL l1 a0_2).2.1 (rd_bLL l1 a0_2).2.2).bind fun bt6=>(some (bt6.1,bt6.2.1,bt6.2.2,0,l1)))))))) else none) else none)) else none) else none

/-! ### gr16_Exact: function by hand -/
mutual
def gr16_Exact.l0:Nat→(List (Int × Int × Int × Bool × (List Int) × List Int))→(List (Bool × (List Int) × List Int))→(List (Bool × (List Int) × List Int))→(List (Bool × (List Int) × List Int))→Int→Int→Int→Option (List (Bool × (List Int) × List Int) × Int × Int)
 | 0,_,_,_,_,_,_,_=>none
 | k+1,x0,x1,x2,x9,x10,x29,x30=>if x30<x29 then (if 0≤x30 then (if x30<(x0.length:Int) then (if (rd_iiibLL x0 x30).1=1 then (if (rd_iiibLL x0 x30).2.1≥(x1.length:Int) then (some (([]:List (Bool × (List Int) × List Int)),x30,11)) else (if 0≤(rd_iiibLL x0 x30).2.1 then (if (rd_iiibLL x0 x30).2.1<(x1.length:Int) then (gr16_Exact.j23 k x0 x1 x2 x9 x10 x30 0 x29 x30 (rd_bLL x1 (rd_iiibLL x0 x30).2.1).1 (rd_bLL x1 (rd_iiibLL x0 x30).2.1).2.1 (rd_bLL x1 (rd_iiibLL x0 x30).2.1).2.2) else none) else none)) else (if (rd_iiibLL x0 x30).1=2 then (gr16_Exact.j23 k x0 x1 x2 x9 x10 x30 0 x29 x30 (rd_iiibLL x0 x30).2.2.2.1 (rd_iiibLL x0 x30).2.2.2.2.1 (rd_iiibLL x0 x30).2.2.2.2.2) else ((gr15_Form.f (rd_iiibLL x0 x30).1).bind fun t4=>(if t4=true then (if x10≥(x2.length:Int) then (some (([]:List (Bool × (List Int) × List Int)),x30,6)) else (if 0≤x10 then (if x10<(x2.length:Int) then (gr16_Exact.j23 k x0 x1 x2 x9 (wrap64 (x10+1)) x30 0 x29 x30 (rd_bLL x2 x10).1 (rd_bLL x2 x10).2.1 (rd_bLL x2 x10).2.2) else none) else none)) else ((gr16_step.f k (rd_iiibLL x0 x30).1 (rd_iiibLL x0 x30).2.1 (rd_iiibLL x0 x30).2.2.1 (rd_iiibLL x0 x30).2.2.2.1 (rd_iiibLL x0 x30).2.2.2.2.1 (rd_iiibLL x0 x30).2.2.2.2.2 x9).bind fun bt5=>(gr16_Exact.j23 k x0 x1 x2 bt5.2.2.2.2 x10 x30 bt5.2.2.2.1 x29 x30 bt5.1 bt5.2.1 bt5.2.2.1)))))) else none) else none) else (some (x9,0,0))
def gr16_Exact.j2:Nat→Option (List (Bool × (List Int) × List Int) × Int × Int)
 | 0=>none
 | k+1=>some (([]:List (Bool × (List Int) × List Int)),0,1)
def gr16_Exact.j23:Nat→(List (Int × Int × Int × Bool × (List Int) × List Int))→(List (Bool × (List Int) × List Int))→(List (Bool × (List Int) × List Int))→(List (Bool × (List Int) × List Int))→Int→Int→Int→Int→Int→Bool→List Int→List Int→Option (List (Bool × (List Int) × List Int) × Int × Int)
 | 0,_,_,_,_,_,_,_,_,_,_,_,_=>none
 | k+1,x0,x1,x2,x9,x10,x11,x14,x29,x30,v13_0,v13_1,v13_2=>if x14=0 then ((gr08_Bits.f k v13_0 v13_1 v13_2).bind fun t6=>(if t6>4096 then (gr16_Exact.j25 k x0 x1 x2 x9 x10 x11 5 x29 x30 v13_0 v13_1 v13_2) else (gr16_Exact.j25 k x0 x1 x2 x9 x10 x11 x14 x29 x30 v13_0 v13_1 v13_2))) else (gr16_Exact.j25 k x0 x1 x2 x9 x10 x11 x14 x29 x30 v13_0 v13_1 v13_2)
def gr16_Exact.j25:Nat→(List (Int × Int × Int × Bool × (List Int) × List Int))→(List (Bool × (List Int) × List Int))→(List (Bool × (List Int) × List Int))→(List (Bool × (List Int) × List Int))→Int→Int→Int→Int→Int→Bool→List Int→List Int→Option (List (Bool × (List Int) × List Int) × Int × Int)
 | 0,_,_,_,_,_,_,_,_,_,_,_,_=>none
 | k+1,x0,x1,x2,x9,x10,x11,x14,x29,x30,v13_0,v13_1,v13_2=>if x14=0 then (if (x9.length+1)*56≤140737488355328 then (gr16_Exact.l0 k x0 x1 x2 (x9++ [(v13_0,(v13_1,v13_2))]) x10 x29 (wrap64 (x30+1))) else none) else (some (([]:List (Bool × (List Int) × List Int)),x11,x14))
end
def gr16_Exact.f (k:Nat) (a0:List (Int × Int × Int × Bool × (List Int) × List Int)) (a1:List (Bool × (List Int) × List Int)) (a2:List (Bool × (List Int) × List Int)):Option (List (Bool × (List Int) × List Int) × Int × Int):=(gr15_Right.f k a0).bind fun t1=>(if t1=true then ((gr16_Rats.f k a1).bind fun t2=>(if t2=true then ((gr16_Rats.f k a2).bind fun t3=>(if t3=true then (gr16_Exact.l0 k a0 a1 a2 [] 0 (a0.length:Int) 0) else (gr16_Exact.j2 k))) else (gr16_Exact.j2 k))) else (gr16_Exact.j2 k))

/-! ### gr17_twice: function 125 -/
def gr17_twice.f (k:Nat) (a0_0:Bool) (l0_1:List Int) (l0_2:List Int):Option (Bool × List Int × List Int):=(gr07_Add.f k a0_0 l0_1 l0_2 a0_0 l0_1 l0_2).bind fun bt1253=>(some (bt1253.1,bt1253.2.1,bt1253.2.2))

/-! ### gr17_Along: function by hand -/
def gr17_Along.j15:Nat→Int→Int→Int→Bool→List Int→List Int→Bool→List Int→List Int→Bool→List Int→List Int→Bool→List Int→List Int→Bool→List Int→List Int→Option (Bool × List Int × List Int × Int)
 | 0,_,_,_,_,_,_,_,_,_,_,_,_,_,_,_,_,_,_=>none
 | k+1,v4_0,v4_1,v4_2,v4_3,v4_4,v4_5,v5_0,v5_1,v5_2,v8_0,v8_1,v8_2,v10_0,v10_1,v10_2,v11_0,v11_1,v11_2=>if v4_0=8 then ((gr17_twice.f k v5_0 v5_1 v5_2).bind fun bt10=>((gr07_Zero.f bt10.1 bt10.2.1 bt10.2.2).bind fun t11=>(if t11=true then (some (false,([]:List Int),([]:List Int),4)) else ((gr07_Div.f k v10_0 v10_1 v10_2 bt10.1 bt10.2.1 bt10.2.2).bind fun bt12=>(some (bt12.1,bt12.2.1,bt12.2.2,0)))))) else ((gr07_Zero.f v11_0 v11_1 v11_2).bind fun t13=>(if t13=true then (some (false,([]:List Int),([]:List Int),4)) else ((gr07_Div.f k v10_0 v10_1 v10_2 v11_0 v11_1 v11_2).bind fun bt14=>(some (bt14.1,bt14.2.1,bt14.2.2,0)))))
def gr17_Along.f (k:Nat) (a0_0:Int) (a0_1:Int) (a0_2:Int) (a0_3:Bool) (a0_4:List Int) (a0_5:List Int) (a1_0:Bool) (a1_1:List Int) (a1_2:List Int) (a2_0:Bool) (a2_1:List Int) (a2_2:List Int) (a2_3:Bool) (a2_4:List Int) (a2_5:List Int) (a3_0:Bool) (a3_1:List Int) (a3_2:List Int) (a3_3:Bool) (a3_4:List Int) (a3_5:List Int):Option (Bool × List Int × List Int × Int):=if a0_0=3 then (if 0<([(a3_0,(a3_1,a3_2)),(a3_3,(a3_4,a3_5))].length:Int) then ((gr07_Neg.f k (rd_bLL [(a3_0,(a3_1,a3_2)),(a3_3,(a3_4,a3_5))] 0).1 (rd_bLL [(a3_0,(a3_1,a3_2)),(a3_3,(a3_4,a3_5))] 0).2.1 (rd_bLL [(a3_0,(a3_1,a3_2)),(a3_3,(a3_4,a3_5))] 0).2.2).bind fun bt1=>(some (bt1.1,bt1.2.1,bt1.2.2,0))) else none) else (if a0_0=4 then (if 0<([(a3_0,(a3_1,a3_2)),(a3_3,(a3_4,a3_5))].length:Int) then (if 1<([(a3_0,(a3_1,a3_2)),(a3_3,(a3_4,a3_5))].length:Int) then ((gr07_Add.f k (rd_bLL [(a3_0,(a3_1,a3_2)),(a3_3,(a3_4,a3_5))] 0).1 (rd_bLL [(a3_0,(a3_1,a3_2)),(a3_3,(a3_4,a3_5))] 0).2.1 (rd_bLL [(a3_0,(a3_1,a3_2)),(a3_3,(a3_4,a3_5))] 0).2.2 (rd_bLL [(a3_0,(a3_1,a3_2)),(a3_3,(a3_4,a3_5))] 1).1 (rd_bLL [(a3_0,(a3_1,a3_2)),(a3_3,(a3_4,a3_5))] 1).2.1 (rd_bLL [(a3_0,(a3_1,a3_2)),(a3_3,(a3_4,a3_5))] 1).2.2).bind fun bt2=>(some (bt2.1,bt2.2.1,bt2.2.2,0))) else none) else none) else (if a0_0=5 then (if 0<([(a3_0,(a3_1,a3_2)),(a3_3,(a3_4,a3_5))].length:Int) then (if 1<([(a3_0,(a3_1,a3_2)),(a3_3,(a3_4,a3_5))].length:Int) then ((gr07_Sub.f k (rd_bLL [(a3_0,(a3_1,a3_2)),(a3_3,(a3_4,a3_5))] 0).1 (rd_bLL [(a3_0,(a3_1,a3_2)),(a3_3,(a3_4,a3_5))] 0).2.1 (rd_bLL [(a3_0,(a3_1,a3_2)),(a3_3,(a3_4,a3_5))] 0).2.2 (rd_bLL [(a3_0,(a3_1,a3_2)),(a3_3,(a3_4,a3_5))] 1).1 (rd_bLL [(a3_0,(a3_1,a3_2)),(a3_3,(a3_4,a3_5))] 1).2.1 (rd_bLL [(a3_0,(a3_1,a3_2)),(a3_3,(a3_4,a3_5))] 1).2.2).bind fun bt3=>(some (bt3.1,bt3.2.1,bt3.2.2,0))) else none) else none) else (if a0_0=6 then (if 0<([(a3_0,(a3_1,a3_2)),(a3_3,(a3_4,a3_5))].length:Int) then (if 1<([(a2_0,(a2_1,a2_2)),(a2_3,(a2_4,a2_5))].length:Int) then ((gr07_Mul.f k (rd_bLL [(a3_0,(a3_1,a3_2)),(a3_3,(a3_4,a3_5))] 0).1 (rd_bLL [(a3_0,(a3_1,a3_2)),(a3_3,(a3_4,a3_5))] 0).2.1 (rd_bLL [(a3_0,(a3_1,a3_2)),(a3_3,(a3_4,a3_5))] 0).2.2 (rd_bLL [(a2_0,(a2_1,a2_2)),(a2_3,(a2_4,a2_5))] 1).1 (rd_bLL [(a2_0,(a2_1,a2_2)),(a2_3,(a2_4,a2_5))] 1).2.1 (rd_bLL [(a2_0,(a2_1,a2_2)),(a2_3,(a2_4,a2_5))] 1).2.2).bind fun bt4=>(if 0<([(a2_0,(a2_1,a2_2)),(a2_3,(a2_4,a2_5))].length:Int) then (if 1<([(a3_0,(a3_1,a3_2)),(a3_3,(a3_4,a3_5))].length:Int) then ((gr07_Mul.f k (rd_bLL [(a2_0,(a2_1,a2_2)),(a2_3,(a2_4,a2_5))] 0).1 (rd_bLL [(a2_0,(a2_1,a2_2)),(a2_3,(a2_4,a2_5))] 0).2.1 (rd_bLL [(a2_0,(a2_1,a2_2)),(a2_3,(a2_4,a2_5))] 0).2.2 (rd_bLL [(a3_0,(a3_1,a3_2)),(a3_3,(a3_4,a3_5))] 1).1 (rd_bLL [(a3_0,(a3_1,a3_2)),(a3_3,(a3_4,a3_5))] 1).2.1 (rd_bLL [(a3_0,(a3_1,a3_2)),(a3_3,(a3_4,a3_5))] 1).2.2).bind fun bt5=>((gr07_Add.f k bt4.1 bt4.2.1 bt4.2.2 bt5.1 bt5.2.1 bt5.2.2).bind fun bt6=>(some (bt6.1,bt6.2.1,bt6.2.2,0)))) else none) else none)) else none) else none) else (if a0_0=9 then (if 0<([(a3_0,(a3_1,a3_2)),(a3_3,(a3_4,a3_5))].length:Int) then ((gr07_Mul.f k (rd_bLL [(a3_0,(a3_1,a3_2)),(a3_3,(a3_4,a3_5))] 0).1 (rd_bLL [(a3_0,(a3_1,a3_2)),(a3_3,(a3_4,a3_5))] 0).2.1 (rd_bLL [(a3_0,(a3_1,a3_2)),(a3_3,(a3_4,a3_5))] 0).2.2 a1_0 a1_1 a1_2).bind fun bt7=>(some (bt7.1,bt7.2.1,bt7.2.2,0))) else none) else (if 0<([(a3_0,(a3_1,a3_2)),(a3_3,(a3_4,a3_5))].length:Int) then (if 0<([(a2_0,(a2_1,a2_2)),(a2_3,(a2_4,a2_5))].length:Int) then (if a0_0=7 then (if 1<([(a3_0,(a3_1,a3_2)),(a3_3,(a3_4,a3_5))].length:Int) then ((gr07_Mul.f k a1_0 a1_1 a1_2 (rd_bLL [(a3_0,(a3_1,a3_2)),(a3_3,(a3_4,a3_5))] 1).1 (rd_bLL [(a3_0,(a3_1,a3_2)),(a3_3,(a3_4,a3_5))] 1).2.1 (rd_bLL [(a3_0,(a3_1,a3_2)),(a3_3,(a3_4,a3_5))] 1).2.2).bind fun bt8=>((gr07_Sub.f k (rd_bLL [(a3_0,(a3_1,a3_2)),(a3_3,(a3_4,a3_5))] 0).1 (rd_bLL [(a3_0,(a3_1,a3_2)),(a3_3,(a3_4,a3_5))] 0).2.1 (rd_bLL [(a3_0,(a3_1,a3_2)),(a3_3,(a3_4,a3_5))] 0).2.2 bt8.1 bt8.2.1 bt8.2.2).bind fun bt9=>(if 1<([(a2_0,(a2_1,a2_2)),(a2_3,(a2_4,a2_5))].length:Int) then (gr17_Along.j15 k a0_0 a0_1 a0_2 a0_3 a0_4 a0_5 a1_0 a1_1 a1_2 false [] [] bt9.1 bt9.2.1 bt9.2.2 (rd_bLL [(a2_0,(a2_1,a2_2)),(a2_3,(a2_4,a2_5))] 1).1 (rd_bLL [(a2_0,(a2_1,a2_2)),(a2_3,(a2_4,a2_5))] 1).2.1 (rd_bLL [(a2_0,(a2_1,a2_2)),(a2_3,(a2_4,a2_5))] 1).2.2) else none))) else none) else (gr17_Along.j15 k a0_0 a0_1 a0_2 a0_3 a0_4 a0_5 a1_0 a1_1 a1_2 false [] [] (rd_bLL [(a3_0,(a3_1,a3_2)),(a3_3,(a3_4,a3_5))] 0).1 (rd_bLL [(a3_0,(a3_1,a3_2)),(a3_3,(a3_4,a3_5))] 0).2.1 (rd_bLL [(a3_0,(a3_1,a3_2)),(a3_3,(a3_4,a3_5))] 0).2.2 (rd_bLL [(a2_0,(a2_1,a2_2)),(a2_3,(a2_4,a2_5))] 0).1 (rd_bLL [(a2_0,(a2_1,a2_2)),(a2_3,(a2_4,a2_5))] 0).2.1 (rd_bLL [(a2_0,(a2_1,a2_2)),(a2_3,(a2_4,a2_5))] 0).2.2)) else none) else none)))))

/-! ### gr17_Rules: function by hand -/
mutual
def gr17_Rules.l0:Nat→(List (Int × Int × Int × Bool × (List Int) × List Int))→(List (Bool × (List Int) × List Int))→(List (Bool × (List Int) × List Int))→(List (Bool × (List Int) × List Int))→Int→Int→Option (List (Bool × (List Int) × List Int) × Int × Int)
 | 0,_,_,_,_,_,_=>none
 | k+1,x0,x1,x2,x9,x15,x16=>if x16<x15 then (if 0≤x16 then (if x16<(x0.length:Int) then ((gr07_Of.f k 0).bind fun bt1=>(if (rd_iiibLL x0 x16).1=1 then (if 0≤(rd_iiibLL x0 x16).2.1 then (if (rd_iiibLL x0 x16).2.1<(x2.length:Int) then (gr17_Rules.j10 k x0 x1 x2 x9 x16 0 x15 x16 (rd_iiibLL x0 x16).1 (rd_iiibLL x0 x16).2.1 (rd_iiibLL x0 x16).2.2.1 (rd_iiibLL x0 x16).2.2.2.1 (rd_iiibLL x0 x16).2.2.2.2.1 (rd_iiibLL x0 x16).2.2.2.2.2 (rd_bLL x2 (rd_iiibLL x0 x16).2.1).1 (rd_bLL x2 (rd_iiibLL x0 x16).2.1).2.1 (rd_bLL x2 (rd_iiibLL x0 x16).2.1).2.2) else none) else none) else (gr17_Rules.j10 k x0 x1 x2 x9 x16 0 x15 x16 (rd_iiibLL x0 x16).1 (rd_iiibLL x0 x16).2.1 (rd_iiibLL x0 x16).2.2.1 (rd_iiibLL x0 x16).2.2.2.1 (rd_iiibLL x0 x16).2.2.2.2.1 (rd_iiibLL x0 x16).2.2.2.2.2 bt1.1 bt1.2.1 bt1.2.2))) else none) else none) else (some (x9,0,0))
def gr17_Rules.j10:Nat→(List (Int × Int × Int × Bool × (List Int) × List Int))→(List (Bool × (List Int) × List Int))→(List (Bool × (List Int) × List Int))→(List (Bool × (List Int) × List Int))→Int→Int→Int→Int→Int→Int→Int→Bool→List Int→List Int→Bool→List Int→List Int→Option (List (Bool × (List Int) × List Int) × Int × Int)
 | 0,_,_,_,_,_,_,_,_,_,_,_,_,_,_,_,_,_=>none
 | k+1,x0,x1,x2,x9,x10,x13,x15,x16,v11_0,v11_1,v11_2,v11_3,v11_4,v11_5,v12_0,v12_1,v12_2=>(gr15_Arity.f k v11_0).bind fun t2=>(if t2>0 then (if 0≤x10 then (if x10<(x1.length:Int) then (if 0≤v11_1 then (if v11_1<(x1.length:Int) then (if 0≤v11_2 then (if v11_2<(x1.length:Int) then (if v11_1<(x9.length:Int) then (if v11_2<(x9.length:Int) then ((gr17_Along.f k v11_0 v11_1 v11_2 v11_3 v11_4 v11_5 (rd_bLL x1 x10).1 (rd_bLL x1 x10).2.1 (rd_bLL x1 x10).2.2 (rd_bLL x1 v11_1).1 (rd_bLL x1 v11_1).2.1 (rd_bLL x1 v11_1).2.2 (rd_bLL x1 v11_2).1 (rd_bLL x1 v11_2).2.1 (rd_bLL x1 v11_2).2.2 (rd_bLL x9 v11_1).1 (rd_bLL x9 v11_1).2.1 (rd_bLL x9 v11_1).2.2 (rd_bLL x9 v11_2).1 (rd_bLL x9 v11_2).2.1 (rd_bLL x9 v11_2).2.2).bind fun bt3=>(gr17_Rules.j12 k x0 x1 x2 x9 x10 bt3.2.2.2 x15 x16 bt3.1 bt3.2.1 bt3.2.2.1)) else none) else none) else none) else none) else none) else none) else none) else none) else (gr17_Rules.j12 k x0 x1 x2 x9 x10 x13 x15 x16 v12_0 v12_1 v12_2))
def gr17_Rules.j12:Nat→(List (Int × Int × Int × Bool × (List Int) × List Int))→(List (Bool × (List Int) × List Int))→(List (Bool × (List Int) × List Int))→(List (Bool × (List Int) × List Int))→Int→Int→Int→Int→Bool→List Int→List Int→Option (List (Bool × (List Int) × List Int) × Int × Int)
 | 0,_,_,_,_,_,_,_,_,_,_,_=>none
 | k+1,x0,x1,x2,x9,x10,x13,x15,x16,v12_0,v12_1,v12_2=>if x13=0 then ((gr08_Bits.f k v12_0 v12_1 v12_2).bind fun t4=>(if t4>4096 then (gr17_Rules.j14 k x0 x1 x2 x9 x10 5 x15 x16 v12_0 v12_1 v12_2) else (gr17_Rules.j14 k x0 x1 x2 x9 x10 x13 x15 x16 v12_0 v12_1 v12_2))) else (gr17_Rules.j14 k x0 x1 x2 x9 x10 x13 x15 x16 v12_0 v12_1 v12_2)
def gr17_Rules.j14:Nat→(List (Int × Int × Int × Bool × (List Int) × List Int))→(List (Bool × (List Int) × List Int))→(List (Bool × (List Int) × List Int))→(List (Bool × (List Int) × List Int))→Int→Int→Int→Int→Bool→List Int→List Int→Option (List (Bool × (List Int) × List Int) × Int × Int)
 | 0,_,_,_,_,_,_,_,_,_,_,_=>none
 | k+1,x0,x1,x2,x9,x10,x13,x15,x16,v12_0,v12_1,v12_2=>if x13=0 then (if (x9.length+1)*56≤140737488355328 then (gr17_Rules.l0 k x0 x1 x2 (x9++ [(v12_0,(v12_1,v12_2))]) x15 (wrap64 (x16+1))) else none) else (some (([]:List (Bool × (List Int) × List Int)),x10,x13))
end
def gr17_Rules.f (k:Nat) (a0:List (Int × Int × Int × Bool × (List Int) × List Int)) (a1:List (Bool × (List Int) × List Int)) (a2:List (Bool × (List Int) × List Int)):Option (List (Bool × (List Int) × List Int) × Int × Int):=gr17_Rules.l0 k a0 a1 a2 [] (a0.length:Int) 0

/-! ### gr17_Of: function by hand -/
def gr17_Of.j2:Nat→Option (List (Bool × (List Int) × List Int) × List (Bool × (List Int) × List Int) × Int × Int)
 | 0=>none
 | k+1=>some (([]:List (Bool × (List Int) × List Int)),([]:List (Bool × (List Int) × List Int)),0,1)
def gr17_Of.f (k:Nat) (a0:List (Int × Int × Int × Bool × (List Int) × List Int)) (a1:List (Bool × (List Int) × List Int)) (a2:List (Bool × (List Int) × List Int)) (a3:List (Bool × (List Int) × List Int)):Option (List (Bool × (List Int) × List Int) × List (Bool × (List Int) × List Int) × Int × Int):=if (a1.length:Int)=(a2.length:Int) then ((gr16_Rats.f k a2).bind fun t1=>(if t1=true then ((gr16_Exact.f k a0 a1 a3).bind fun bt2=>(if bt2.2.2=0 then ((gr17_Rules.f k a0 bt2.1 a2).bind fun bt3=>(if bt3.2.2=0 then (some (bt2.1,bt3.1,0,0)) else (some (([]:List (Bool × (List Int) × List Int)),([]:List (Bool × (List Int) × List Int)),bt3.2.1,bt3.2.2)))) else (some (([]:List (Bool × (List Int) × List Int)),([]:List (Bool × (List Int) × List Int)),bt2.2.1,bt2.2.2)))) else (gr17_Of.j2 k))) else (gr17_Of.j2 k)

end Go.Proofs.YtjocbnjpjihpnaaGreat.P
