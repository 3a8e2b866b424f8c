/- Functions of the seat as Lean functions, and walks: written by a program for this claim. -/
import Derived.Test.YtldcgclbgbhffaaFbase
import Derived.Test.YtldcgclbgbhffaaBgradineplain
import Derived.Test.YtldcgclbgbhffaaBgcd
import Derived.Test.YtldcgclbgbhffaaFgradinelaw05same
import Derived.Test.YtldcgclbgbhffaaBgradineref05
namespace Go.Proofs.Ytldcgclbgbhffaa.P
open Go.RowKit Go.Proofs.YtldcgclbgbhffaaW.PrintWords Go.Proofs.YtldcgclbgbhffaaW.PrintLast Go.Proofs.YtldcgclbgbhffaaW.PrintMore
attribute [local go_sem] max2_int min2_int max_two min_two max_three min_three max_four min_four   -- for this text's walks alone
set_option linter.unusedVariables false
set_option linter.unusedSimpArgs false

mutual
def gradinelaw05_GcdTells.j0 : Nat → List Int → List Int → Bool → Option (Bool)
 | 0, _, _, _ => none
 | k + 1, x0, x1, x15 => if x15 = true then ((gradinelaw05_same.f k).bind fun t1324 => (some t1324)) else ((gradineref05_Gcd.f k x0 x1).bind fun t1325 => ((gcd_Reduce.f k x0 x1).bind fun bt1328 => ((gcd_Gcd.f k x0 x1).bind fun t1334 => ((gradineplain_Words.f k t1334 t1325).bind fun t1337 => (if t1337 = true then ((gcd_Lcm.f k x0 x1).bind fun t1338 => ((gradineref05_Lcm.f k x0 x1).bind fun t1341 => ((gradineplain_Words.f k t1338 t1341).bind fun t1344 => (gradinelaw05_GcdTells.j1 k x0 x1 t1325 bt1328.1 bt1328.2 (!t1344))))) else (gradinelaw05_GcdTells.j1 k x0 x1 t1325 bt1328.1 bt1328.2 true))))))
def gradinelaw05_GcdTells.j1 : Nat → List Int → List Int → List Int → List Int → List Int → Bool → Option (Bool)
 | 0, _, _, _, _, _, _ => none
 | k + 1, x0, x1, x5, x6, x7, x41 => if x41 = true then (some false) else ((gradineref05_Part.f k x0 x5).bind fun t1345 => ((gradineplain_Words.f k x6 t1345).bind fun t1348 => (if t1348 = true then ((gradineref05_Part.f k x1 x5).bind fun t1349 => ((gradineplain_Words.f k x7 t1349).bind fun t1352 => (if t1352 = true then ((gcd_Coprime.f k x0 x1).bind fun t1353 => (if (x5.length : Int) = 1 then (if 0 < (x5.length : Int) then (if (t1353 == ((rd x5 0) == 1)) = true then ((gradinelaw05_same.f k).bind fun t1355 => (some t1355)) else (some false)) else (none)) else (if (t1353 == false) = true then ((gradinelaw05_same.f k).bind fun t1356 => (some t1356)) else (some false)))) else (some false)))) else (some false))))
end
def gradinelaw05_GcdTells.f (k : Nat) (l0 : List Int) (l1 : List Int) : Option (Bool) := if (l0.length : Int) > 8 then (gradinelaw05_GcdTells.j0 k l0 l1 true) else (gradinelaw05_GcdTells.j0 k l0 l1 (decide ((l1.length : Int) > 8)))
set_option maxHeartbeats 8000000 in
set_option maxRecDepth 100000 in
theorem gradinelaw05_GcdTells.calls (k : Nat) (A0 : Option Addr) (c0 : Nat) (l0 : List Int) (A1 : Option Addr) (c1 : Nat) (l1 : List Int) (r : Bool) (w : World) (hr0 : Kd.C (Kd.int .u64) w A0 l0.length l0) (hc0 : l0.length ≤ c0) (hr1 : Kd.C (Kd.int .u64) w A1 l1.length l1) (hc1 : l1.length ≤ c1) (h : gradinelaw05_GcdTells.f k l0 l1 = some r) :
  Calls Try.prog 22 #[.slice A0 l0.length c0, .slice A1 l1.length c1] w fun e w' => e = .returned (.bool r) ∧ Below w.heap.size w w' := by
 have HR0 := Aside0.mk hr0
 have HC0 := Aside0.mk hc0
 clear hr0 hc0
 have HR1 := Aside0.mk hr1
 have HC1 := Aside0.mk hc1
 clear hr1 hc1
 have HB := Aside0.mk (Below.refl w.heap.size w)
 have H : (if (l0.length : Int) > 8 then (gradinelaw05_GcdTells.j0 k l0 l1 true) else (gradinelaw05_GcdTells.j0 k l0 l1 (decide ((l1.length : Int) > 8)))) = some r := h
 clear h
 have HC3 := Aside0.mk H
 clear H
 go_enter Try.func22, Try.ntmps22
 go_upto_region 1 with (fail)
 go_cut [15] (fun v15 wc => ∃ (kq : Nat) (x15_2 : Bool), v15 = .bool x15_2 ∧ Aside0 (gradinelaw05_GcdTells.j0 kq l0 l1 x15_2 = some r) ∧ Aside0 (kq ≤ k) ∧ Aside0 (Below w.heap.size w wc))
 case first =>
  have H := HC3.out
  clear HC3
  by_cases c4 : (l0.length : Int) > 8
  ·rw [if_pos c4] at H
   have c4b0 : decide (8 < (l0.length : Int)) = true := decide_eq_true c4
   have c4b1 : decide (8 < l0.length) = true := decide_eq_true (by omega)
   clear c4
   (first | rw [c4b0] | (simp only [i64_w, i32_w]; rw [c4b0]) | rw [c4b1] | skip)
   have H' := Aside0.mk H
   clear H
   go_wp2
   go_meet
   case rel => exact ⟨_, (true), (by first | rfl | (simp; done) | (simp [*]; done)), H', ⟨by first | omega | exact Nat.le_refl _⟩, ⟨bb HB.out⟩⟩
  ·rw [if_neg c4] at H
   have c4b0 : decide (8 < (l0.length : Int)) = false := decide_eq_false c4
   have c4b1 : decide (8 < l0.length) = false := decide_eq_false (by omega)
   clear c4
   (first | rw [c4b0] | (simp only [i64_w, i32_w]; rw [c4b0]) | rw [c4b1] | skip)
   have H' := Aside0.mk H
   clear H
   go_wp2
   go_meet
   case rel => exact ⟨_, (decide ((l1.length : Int) > 8)), (by first | rfl | (simp; done) | (simp [*]; done)), H', ⟨by first | omega | exact Nat.le_refl _⟩, ⟨bb HB.out⟩⟩
 case rest =>
  clear HC3
  try clear c1
  try clear c2
  try clear p2
  try clear c4
  try clear c4b0
  try clear c4b1
  obtain ⟨kq, x15_2, rfl, HA, HJ2, HB⟩ := hcut
  cases kq with
  | zero => exact absurd HA.out (by simp [gradinelaw05_GcdTells.j0])
  | succ kj2 =>
   have H := HA.out
   clear HA
   simp only [gradinelaw05_GcdTells.j0] at H
   by_cases c5 : x15_2 = true
   ·subst c5
    have H1 : ((gradinelaw05_same.f kj2).bind fun t1324 => (some t1324)) = some r := by rw [if_pos rfl] at H; exact H
    clear H
    have H := H1
    clear H1
    replace H := Option.bind_eq_some_iff.mp H
    obtain ⟨t1324, A60, H⟩ := H
    replace H : (some t1324) = some r := H
    have A6 := Aside0.mk A60
    clear A60
    obtain rfl := Option.some.inj H
    go_wp2_with (first | ((with_reducible refine gate_callee (f := 85) rfl ?_); refine goesL_ (some 16) rfl rfl Try.func85 (by kernel_rfl) rfl #[] rfl (by first | rfl | simp | (simp only [*]; done)) ?_; (with_reducible refine (gradinelaw05_same.calls kj2  t1324 _ A6.out).mono ?_); rintro e w7 ⟨rfl, hb⟩; refine ⟨_, rfl, ?_⟩; have n0_ := Aside0.mk (below_step (bb HB.out) hb); clear HB; have HB := n0_; clear n0_))
    go_ret
    exact ⟨by first | rfl | (simp [errW_none, errW_some] <;> rfl) | (simp [*, errW_none, errW_some] <;> rfl), by repeat (first | (with_reducible first | exact HB.out | apply below_alloc | apply pw_below_drewN | apply below_drew1) | exact HB.out)⟩
   ·replace c5 := Bool.eq_false_iff.mpr c5
    subst c5
    have H1 : ((gradineref05_Gcd.f kj2 l0 l1).bind fun t1325 => ((gcd_Reduce.f kj2 l0 l1).bind fun bt1328 => ((gcd_Gcd.f kj2 l0 l1).bind fun t1334 => ((gradineplain_Words.f kj2 t1334 t1325).bind fun t1337 => (if t1337 = true then ((gcd_Lcm.f kj2 l0 l1).bind fun t1338 => ((gradineref05_Lcm.f kj2 l0 l1).bind fun t1341 => ((gradineplain_Words.f kj2 t1338 t1341).bind fun t1344 => (gradinelaw05_GcdTells.j1 kj2 l0 l1 t1325 bt1328.1 bt1328.2 (!t1344))))) else (gradinelaw05_GcdTells.j1 kj2 l0 l1 t1325 bt1328.1 bt1328.2 true)))))) = some r := by rw [if_neg (show ¬ (false = true) by decide)] at H; exact H
    clear H
    have H := H1
    clear H1
    replace H := Option.bind_eq_some_iff.mp H
    obtain ⟨t1325, A80, H⟩ := H
    replace H : ((gcd_Reduce.f kj2 l0 l1).bind fun bt1328 => ((gcd_Gcd.f kj2 l0 l1).bind fun t1334 => ((gradineplain_Words.f kj2 t1334 t1325).bind fun t1337 => (if t1337 = true then ((gcd_Lcm.f kj2 l0 l1).bind fun t1338 => ((gradineref05_Lcm.f kj2 l0 l1).bind fun t1341 => ((gradineplain_Words.f kj2 t1338 t1341).bind fun t1344 => (gradinelaw05_GcdTells.j1 kj2 l0 l1 t1325 bt1328.1 bt1328.2 (!t1344))))) else (gradinelaw05_GcdTells.j1 kj2 l0 l1 t1325 bt1328.1 bt1328.2 true))))) = some r := H
    have A8 := Aside0.mk A80
    clear A80
    replace H := Option.bind_eq_some_iff.mp H
    obtain ⟨⟨t1328, t1329⟩, A90, H⟩ := H
    replace H : ((gcd_Gcd.f kj2 l0 l1).bind fun t1334 => ((gradineplain_Words.f kj2 t1334 t1325).bind fun t1337 => (if t1337 = true then ((gcd_Lcm.f kj2 l0 l1).bind fun t1338 => ((gradineref05_Lcm.f kj2 l0 l1).bind fun t1341 => ((gradineplain_Words.f kj2 t1338 t1341).bind fun t1344 => (gradinelaw05_GcdTells.j1 kj2 l0 l1 t1325 t1328 t1329 (!t1344))))) else (gradinelaw05_GcdTells.j1 kj2 l0 l1 t1325 t1328 t1329 true)))) = some r := H
    have A9 := Aside0.mk A90
    clear A90
    have HC10 := Aside0.mk H
    clear H
    go_upto_region 5 with (first | ((with_reducible refine gate_callee (f := 91) rfl ?_); refine goesL_ (some 19) rfl rfl Try.func91 (by kernel_rfl) rfl #[.slice A0 l0.length c0, .slice A1 l1.length c1] rfl (by (try simp only [List.map_toArray, List.map_cons, List.map_nil]); first | done | rfl | (simp only [List.length_drop, List.length_take]; rfl) | (simp only [*]; done)) ?_; (with_reducible refine (gradineref05_Gcd.calls kj2 _ _ l0 _ _ l1 t1325 _ ?side1 ?side2 ?side3 ?side4 A8.out).mono ?_); (case side1 => exact cs (Kd.C_below HR0.out HB.out)); (case side2 => exact HC0.out); (case side3 => exact cs (Kd.C_below HR1.out HB.out)); (case side4 => exact HC1.out); rintro e w11 ⟨v1326, rfl, ho0, hb⟩; refine ⟨_, rfl, ?_⟩; have n0_ := Aside0.mk (Kd.R_lower ho0 (below_size (bb HB.out))); have n1_ := Aside0.mk (below_step (bb HB.out) hb); clear HB; have HO1327 := n0_; have HB := n1_; clear n0_ n1_) | ((with_reducible refine gate_callee (f := 92) rfl ?_); refine goesL_ (some 23) rfl rfl Try.func92 (by kernel_rfl) rfl #[.slice A0 l0.length c0, .slice A1 l1.length c1] rfl (by (try simp only [List.map_toArray, List.map_cons, List.map_nil]); first | done | rfl | (simp only [List.length_drop, List.length_take]; rfl) | (simp only [*]; done)) ?_; (with_reducible refine (gcd_Reduce.calls kj2 _ _ l0 _ _ l1 t1328 t1329 _ ?side1 ?side2 ?side3 ?side4 A9.out).mono ?_); (case side1 => exact cs (Kd.C_below HR0.out HB.out)); (case side2 => exact HC0.out); (case side3 => exact cs (Kd.C_below HR1.out HB.out)); (case side4 => exact HC1.out); rintro e w12 ⟨v1330, v1332, rfl, ho0, ho1, hb⟩; refine ⟨_, rfl, ?_⟩; have n0_ := Aside0.mk (Kd.R_mono (Kd.R_told (Kd.R_told (Kd.R_old (st HO1327.out) hb) (Kd.R_base ho0)) (Kd.R_base ho1)) (fun _ h_ => h_.1)); have n1_ := Aside0.mk (Kd.R_lower (Kd.R_new' ho0 (Kd.R_lt (st HO1327.out))) (below_size (bb HB.out))); have n2_ := Aside0.mk (Kd.R_lower (Kd.R_new' ho1 (Kd.R_lt (st HO1327.out))) (below_size (bb HB.out))); have n3_ := Aside0.mk (below_step (bb HB.out) hb); clear HO1327; clear HB; have HO1327 := n0_; have HO1331 := n1_; have HO1333 := n2_; have HB := n3_; clear n0_ n1_ n2_ n3_))
    (try simp only [Act.put, List.setIfInBounds_toArray, List.set_cons_zero, List.set_cons_succ])
    go_cut [41] (fun v41 wc => ∃ (kq : Nat) (x41_9 : Bool), v41 = .bool x41_9 ∧ Aside0 (gradinelaw05_GcdTells.j1 kq l0 l1 t1325 t1328 t1329 x41_9 = some r) ∧ Aside0 (kq ≤ kj2) ∧ Aside0 (Kd.R (Kd.int .u64) 22 wc w.heap.size (fun k_ => some k_ ≠ (v1330 : Value).ownBlock ∧ some k_ ≠ (v1332 : Value).ownBlock) v1326 t1325) ∧ Aside0 (Kd.R (Kd.int .u64) 22 wc w.heap.size (fun k_ => some k_ ≠ (v1326 : Value).ownBlock ∧ some k_ ≠ (v1332 : Value).ownBlock) v1330 t1328) ∧ Aside0 (Kd.R (Kd.int .u64) 22 wc w.heap.size (fun k_ => some k_ ≠ (v1326 : Value).ownBlock ∧ some k_ ≠ (v1330 : Value).ownBlock) v1332 t1329) ∧ Aside0 (Below w.heap.size w wc))
    case first =>
     have H := HC10.out
     clear HC10
     replace H := Option.bind_eq_some_iff.mp H
     obtain ⟨t1334, A130, H⟩ := H
     replace H : ((gradineplain_Words.f kj2 t1334 t1325).bind fun t1337 => (if t1337 = true then ((gcd_Lcm.f kj2 l0 l1).bind fun t1338 => ((gradineref05_Lcm.f kj2 l0 l1).bind fun t1341 => ((gradineplain_Words.f kj2 t1338 t1341).bind fun t1344 => (gradinelaw05_GcdTells.j1 kj2 l0 l1 t1325 t1328 t1329 (!t1344))))) else (gradinelaw05_GcdTells.j1 kj2 l0 l1 t1325 t1328 t1329 true))) = some r := H
     have A13 := Aside0.mk A130
     clear A130
     replace H := Option.bind_eq_some_iff.mp H
     obtain ⟨t1337, A140, H⟩ := H
     replace H : (if t1337 = true then ((gcd_Lcm.f kj2 l0 l1).bind fun t1338 => ((gradineref05_Lcm.f kj2 l0 l1).bind fun t1341 => ((gradineplain_Words.f kj2 t1338 t1341).bind fun t1344 => (gradinelaw05_GcdTells.j1 kj2 l0 l1 t1325 t1328 t1329 (!t1344))))) else (gradinelaw05_GcdTells.j1 kj2 l0 l1 t1325 t1328 t1329 true)) = some r := H
     have A14 := Aside0.mk A140
     clear A140
     by_cases c15 : t1337 = true
     ·subst c15
      have H1 : ((gcd_Lcm.f kj2 l0 l1).bind fun t1338 => ((gradineref05_Lcm.f kj2 l0 l1).bind fun t1341 => ((gradineplain_Words.f kj2 t1338 t1341).bind fun t1344 => (gradinelaw05_GcdTells.j1 kj2 l0 l1 t1325 t1328 t1329 (!t1344))))) = some r := by rw [if_pos rfl] at H; exact H
      clear H
      have H := H1
      clear H1
      replace H := Option.bind_eq_some_iff.mp H
      obtain ⟨t1338, A160, H⟩ := H
      replace H : ((gradineref05_Lcm.f kj2 l0 l1).bind fun t1341 => ((gradineplain_Words.f kj2 t1338 t1341).bind fun t1344 => (gradinelaw05_GcdTells.j1 kj2 l0 l1 t1325 t1328 t1329 (!t1344)))) = some r := H
      have A16 := Aside0.mk A160
      clear A160
      replace H := Option.bind_eq_some_iff.mp H
      obtain ⟨t1341, A170, H⟩ := H
      replace H : ((gradineplain_Words.f kj2 t1338 t1341).bind fun t1344 => (gradinelaw05_GcdTells.j1 kj2 l0 l1 t1325 t1328 t1329 (!t1344))) = some r := H
      have A17 := Aside0.mk A170
      clear A170
      replace H := Option.bind_eq_some_iff.mp H
      obtain ⟨t1344, A180, H⟩ := H
      replace H : (gradinelaw05_GcdTells.j1 kj2 l0 l1 t1325 t1328 t1329 (!t1344)) = some r := H
      have A18 := Aside0.mk A180
      clear A180
      have H' := Aside0.mk H
      clear H
      go_wp2_with (first | ((with_reducible refine gate_callee (f := 86) rfl ?_); refine goesL_ (some 28) rfl rfl Try.func86 (by kernel_rfl) rfl #[.slice A0 l0.length c0, .slice A1 l1.length c1] rfl (by (try simp only [List.map_toArray, List.map_cons, List.map_nil]); first | done | rfl | (simp only [List.length_drop, List.length_take]; rfl) | (simp only [*]; done)) ?_; (with_reducible refine (gcd_Gcd.calls kj2 _ _ l0 _ _ l1 t1334 _ ?side1 ?side2 ?side3 ?side4 A13.out).mono ?_); (case side1 => exact cs (Kd.C_below HR0.out HB.out)); (case side2 => exact HC0.out); (case side3 => exact cs (Kd.C_below HR1.out HB.out)); (case side4 => exact HC1.out); rintro e w19 ⟨v1335, rfl, ho0, hb⟩; refine ⟨_, rfl, ?_⟩; have n0_ := Aside0.mk (Kd.R_elder' (st HO1327.out) (Kd.R_base ho0) hb); have n1_ := Aside0.mk (Kd.R_elder' (st HO1331.out) (Kd.R_base ho0) hb); have n2_ := Aside0.mk (Kd.R_elder' (st HO1333.out) (Kd.R_base ho0) hb); have n3_ := Aside0.mk (Kd.R_lower (Kd.R_new' (Kd.R_new' (Kd.R_new' ho0 (Kd.R_lt (st HO1327.out))) (Kd.R_lt (st HO1331.out))) (Kd.R_lt (st HO1333.out))) (below_size (bb HB.out))); have n4_ := Aside0.mk (below_step (bb HB.out) hb); clear HO1327; clear HO1331; clear HO1333; clear HB; have HO1327 := n0_; have HO1331 := n1_; have HO1333 := n2_; have HO1336 := n3_; have HB := n4_; clear n0_ n1_ n2_ n3_ n4_; (try clear hb); (try clear hb2); (try clear hk); (try clear hi); (try clear ho0); obtain ⟨Ao20, co20, eo20⟩ := Kd.R_slice HO1336.out; subst eo20; obtain ⟨Ao21, co21, eo21⟩ := Kd.R_slice HO1327.out; subst eo21) | ((with_reducible refine gate_callee (f := 46) rfl ?_); refine goesL_ (some 30) rfl rfl Try.func46 (by kernel_rfl) rfl #[.slice Ao20 t1334.length co20, .slice Ao21 t1325.length co21] rfl (by (try simp only [List.map_toArray, List.map_cons, List.map_nil]); first | done | rfl | (simp only [List.length_drop, List.length_take]; rfl) | (simp only [*]; done)) ?_; (with_reducible refine (gradineplain_Words.calls kj2 _ _ t1334 _ _ t1325 true _ ?side1 ?side2 ?side3 ?side4 A14.out).mono ?_); (case side1 => exact cs (Kd.R_reads' HO1336.out).2.2); (case side2 => exact (Kd.R_reads' HO1336.out).2.1); (case side3 => exact cs (Kd.R_reads' HO1327.out).2.2); (case side4 => exact (Kd.R_reads' HO1327.out).2.1); rintro e w' ⟨rfl, ⟨nd, rfl⟩⟩; refine ⟨_, rfl, ?_⟩) | (go_at_call 93; (with_reducible refine (gcd_Lcm.calls kj2 _ _ l0 _ _ l1 t1338 _ ?side1 ?side2 ?side3 ?side4 A16.out).mono ?_); (case side1 => repeat (first | exact (Kd.C_below HR0.out (bb HB.out)) | (with_reducible refine Kd.C_alloc ?_ _) | (with_reducible refine Kd.C_drewN ?_ _) | (with_reducible refine Kd.C_drew ?_))); (case side2 => exact HC0.out); (case side3 => repeat (first | exact (Kd.C_below HR1.out (bb HB.out)) | (with_reducible refine Kd.C_alloc ?_ _) | (with_reducible refine Kd.C_drewN ?_ _) | (with_reducible refine Kd.C_drew ?_))); (case side4 => exact HC1.out); rintro e w22 ⟨v1339, rfl, ho0, hb⟩; have n0_ := Aside0.mk (Kd.R_elder' (st HO1327.out) (Kd.R_base ho0) hb); have n1_ := Aside0.mk (Kd.R_elder' (st HO1331.out) (Kd.R_base ho0) hb); have n2_ := Aside0.mk (Kd.R_elder' (st HO1333.out) (Kd.R_base ho0) hb); have n3_ := Aside0.mk (Kd.R_elder' (st HO1336.out) (Kd.R_base ho0) hb); have n4_ := Aside0.mk (Kd.R_lower (Kd.R_new' (Kd.R_new' (Kd.R_new' (Kd.R_new' ho0 (Kd.R_lt (st HO1327.out))) (Kd.R_lt (st HO1331.out))) (Kd.R_lt (st HO1333.out))) (Kd.R_lt (st HO1336.out))) (below_size (bb HB.out))); have n5_ := Aside0.mk (below_step (bb HB.out) hb); clear HO1327; clear HO1331; clear HO1333; clear HO1336; clear HB; have HO1327 := n0_; have HO1331 := n1_; have HO1333 := n2_; have HO1336 := n3_; have HO1340 := n4_; have HB := n5_; clear n0_ n1_ n2_ n3_ n4_ n5_) | (go_at_call 94; (with_reducible refine (gradineref05_Lcm.calls kj2 _ _ l0 _ _ l1 t1341 _ ?side1 ?side2 ?side3 ?side4 A17.out).mono ?_); (case side1 => exact cs (Kd.C_below HR0.out HB.out)); (case side2 => exact HC0.out); (case side3 => exact cs (Kd.C_below HR1.out HB.out)); (case side4 => exact HC1.out); rintro e w23 ⟨v1342, rfl, ho0, hb⟩; have n0_ := Aside0.mk (Kd.R_elder' (st HO1327.out) (Kd.R_base ho0) hb); have n1_ := Aside0.mk (Kd.R_elder' (st HO1331.out) (Kd.R_base ho0) hb); have n2_ := Aside0.mk (Kd.R_elder' (st HO1333.out) (Kd.R_base ho0) hb); have n3_ := Aside0.mk (Kd.R_elder' (st HO1336.out) (Kd.R_base ho0) hb); have n4_ := Aside0.mk (Kd.R_elder' (st HO1340.out) (Kd.R_base ho0) hb); have n5_ := Aside0.mk (Kd.R_lower (Kd.R_new' (Kd.R_new' (Kd.R_new' (Kd.R_new' (Kd.R_new' ho0 (Kd.R_lt (st HO1327.out))) (Kd.R_lt (st HO1331.out))) (Kd.R_lt (st HO1333.out))) (Kd.R_lt (st HO1336.out))) (Kd.R_lt (st HO1340.out))) (below_size (bb HB.out))); have n6_ := Aside0.mk (below_step (bb HB.out) hb); clear HO1327; clear HO1331; clear HO1333; clear HO1336; clear HO1340; clear HB; have HO1327 := n0_; have HO1331 := n1_; have HO1333 := n2_; have HO1336 := n3_; have HO1340 := n4_; have HO1343 := n5_; have HB := n6_; clear n0_ n1_ n2_ n3_ n4_ n5_ n6_; (try clear hb); (try clear hb2); (try clear hk); (try clear hi); (try clear ho0); obtain ⟨Ao24, co24, eo24⟩ := Kd.R_slice HO1340.out; subst eo24; obtain ⟨Ao25, co25, eo25⟩ := Kd.R_slice HO1343.out; subst eo25) | (go_at_call 46; (with_reducible refine (gradineplain_Words.calls kj2 _ _ t1338 _ _ t1341 t1344 _ ?side1 ?side2 ?side3 ?side4 A18.out).mono ?_); (case side1 => exact cs (Kd.R_reads' HO1340.out).2.2); (case side2 => exact (Kd.R_reads' HO1340.out).2.1); (case side3 => exact cs (Kd.R_reads' HO1343.out).2.2); (case side4 => exact (Kd.R_reads' HO1343.out).2.1); rintro e w' ⟨rfl, ⟨nd, rfl⟩⟩))
      go_meet
      case rel => exact ⟨_, (!t1344), (by first | rfl | (simp; done) | (simp [*]; done)), H', ⟨by have := HJ2.out; first | omega | exact Nat.le_refl _⟩, ⟨by (with_reducible repeat (first | apply Kd.R_alloc | apply Kd.R_drewN | apply Kd.R_drew)); exact Kd.R_mono HO1327.out (fun _ hk => ⟨hk.1.1.1.1.2, hk.1.1.1.2⟩)⟩, ⟨by (with_reducible repeat (first | apply Kd.R_alloc | apply Kd.R_drewN | apply Kd.R_drew)); exact Kd.R_mono HO1331.out (fun _ hk => ⟨hk.1.1.1.2, hk.1.1.1.1⟩)⟩, ⟨by (with_reducible repeat (first | apply Kd.R_alloc | apply Kd.R_drewN | apply Kd.R_drew)); exact Kd.R_mono HO1333.out (fun _ hk => ⟨hk.1.1.1.2, hk.1.1.1.1⟩)⟩, ⟨bb HB.out⟩⟩
     ·replace c15 := Bool.eq_false_iff.mpr c15
      subst c15
      have H1 : (gradinelaw05_GcdTells.j1 kj2 l0 l1 t1325 t1328 t1329 true) = some r := by rw [if_neg (show ¬ (false = true) by decide)] at H; exact H
      clear H
      have H := H1
      clear H1
      have H' := Aside0.mk H
      clear H
      go_wp2_with (first | ((with_reducible refine gate_callee (f := 86) rfl ?_); refine goesL_ (some 28) rfl rfl Try.func86 (by kernel_rfl) rfl #[.slice A0 l0.length c0, .slice A1 l1.length c1] rfl (by (try simp only [List.map_toArray, List.map_cons, List.map_nil]); first | done | rfl | (simp only [List.length_drop, List.length_take]; rfl) | (simp only [*]; done)) ?_; (with_reducible refine (gcd_Gcd.calls kj2 _ _ l0 _ _ l1 t1334 _ ?side1 ?side2 ?side3 ?side4 A13.out).mono ?_); (case side1 => exact cs (Kd.C_below HR0.out HB.out)); (case side2 => exact HC0.out); (case side3 => exact cs (Kd.C_below HR1.out HB.out)); (case side4 => exact HC1.out); rintro e w26 ⟨v1335, rfl, ho0, hb⟩; refine ⟨_, rfl, ?_⟩; have n0_ := Aside0.mk (Kd.R_elder' (st HO1327.out) (Kd.R_base ho0) hb); have n1_ := Aside0.mk (Kd.R_elder' (st HO1331.out) (Kd.R_base ho0) hb); have n2_ := Aside0.mk (Kd.R_elder' (st HO1333.out) (Kd.R_base ho0) hb); have n3_ := Aside0.mk (Kd.R_lower (Kd.R_new' (Kd.R_new' (Kd.R_new' ho0 (Kd.R_lt (st HO1327.out))) (Kd.R_lt (st HO1331.out))) (Kd.R_lt (st HO1333.out))) (below_size (bb HB.out))); have n4_ := Aside0.mk (below_step (bb HB.out) hb); clear HO1327; clear HO1331; clear HO1333; clear HB; have HO1327 := n0_; have HO1331 := n1_; have HO1333 := n2_; have HO1336 := n3_; have HB := n4_; clear n0_ n1_ n2_ n3_ n4_; (try clear hb); (try clear hb2); (try clear hk); (try clear hi); (try clear ho0); obtain ⟨Ao27, co27, eo27⟩ := Kd.R_slice HO1336.out; subst eo27; obtain ⟨Ao28, co28, eo28⟩ := Kd.R_slice HO1327.out; subst eo28) | ((with_reducible refine gate_callee (f := 46) rfl ?_); refine goesL_ (some 30) rfl rfl Try.func46 (by kernel_rfl) rfl #[.slice Ao27 t1334.length co27, .slice Ao28 t1325.length co28] rfl (by (try simp only [List.map_toArray, List.map_cons, List.map_nil]); first | done | rfl | (simp only [List.length_drop, List.length_take]; rfl) | (simp only [*]; done)) ?_; (with_reducible refine (gradineplain_Words.calls kj2 _ _ t1334 _ _ t1325 false _ ?side1 ?side2 ?side3 ?side4 A14.out).mono ?_); (case side1 => exact cs (Kd.R_reads' HO1336.out).2.2); (case side2 => exact (Kd.R_reads' HO1336.out).2.1); (case side3 => exact cs (Kd.R_reads' HO1327.out).2.2); (case side4 => exact (Kd.R_reads' HO1327.out).2.1); rintro e w' ⟨rfl, ⟨nd, rfl⟩⟩; refine ⟨_, rfl, ?_⟩))
      go_meet
      case rel => exact ⟨_, (true), (by first | rfl | (simp; done) | (simp [*]; done)), H', ⟨by have := HJ2.out; first | omega | exact Nat.le_refl _⟩, ⟨by (with_reducible repeat (first | apply Kd.R_alloc | apply Kd.R_drewN | apply Kd.R_drew)); exact Kd.R_mono HO1327.out (fun _ hk => ⟨hk.1.1.2, hk.1.2⟩)⟩, ⟨by (with_reducible repeat (first | apply Kd.R_alloc | apply Kd.R_drewN | apply Kd.R_drew)); exact Kd.R_mono HO1331.out (fun _ hk => ⟨hk.1.2, hk.1.1⟩)⟩, ⟨by (with_reducible repeat (first | apply Kd.R_alloc | apply Kd.R_drewN | apply Kd.R_drew)); exact Kd.R_mono HO1333.out (fun _ hk => ⟨hk.1.2, hk.1.1⟩)⟩, ⟨bb HB.out⟩⟩
    case rest =>
     clear HC10
     try clear c1
     try clear c2
     try clear p2
     try clear c4
     try clear c4b0
     try clear c4b1
     try clear c5
     try clear c8
     try clear c9
     try clear c15
     try clear c22
     try clear p2
     obtain ⟨kq, x41_9, rfl, HA, HJ9, HO_5, HO_6, HO_7, HB⟩ := hcut
     cases kq with
     | zero => exact absurd HA.out (by simp [gradinelaw05_GcdTells.j1])
     | succ kj9 =>
      have H := HA.out
      clear HA
      simp only [gradinelaw05_GcdTells.j1] at H
      by_cases c29 : x41_9 = true
      ·subst c29
       have H1 : (some false) = some r := by rw [if_pos rfl] at H; exact H
       clear H
       have H := H1
       clear H1
       obtain rfl := Option.some.inj H
       go_wp2
       go_ret
       exact ⟨by first | rfl | (simp [errW_none, errW_some] <;> rfl) | (simp [*, errW_none, errW_some] <;> rfl), by repeat (first | (with_reducible first | exact HB.out | apply below_alloc | apply pw_below_drewN | apply below_drew1) | exact HB.out)⟩
      ·replace c29 := Bool.eq_false_iff.mpr c29
       subst c29
       have H1 : ((gradineref05_Part.f kj9 l0 t1325).bind fun t1345 => ((gradineplain_Words.f kj9 t1328 t1345).bind fun t1348 => (if t1348 = true then ((gradineref05_Part.f kj9 l1 t1325).bind fun t1349 => ((gradineplain_Words.f kj9 t1329 t1349).bind fun t1352 => (if t1352 = true then ((gcd_Coprime.f kj9 l0 l1).bind fun t1353 => (if (t1325.length : Int) = 1 then (if 0 < (t1325.length : Int) then (if (t1353 == ((rd t1325 0) == 1)) = true then ((gradinelaw05_same.f kj9).bind fun t1355 => (some t1355)) else (some false)) else (none)) else (if (t1353 == false) = true then ((gradinelaw05_same.f kj9).bind fun t1356 => (some t1356)) else (some false)))) else (some false)))) else (some false)))) = some r := by rw [if_neg (show ¬ (false = true) by decide)] at H; exact H
       clear H
       have H := H1
       clear H1
       replace H := Option.bind_eq_some_iff.mp H
       obtain ⟨t1345, A300, H⟩ := H
       replace H : ((gradineplain_Words.f kj9 t1328 t1345).bind fun t1348 => (if t1348 = true then ((gradineref05_Part.f kj9 l1 t1325).bind fun t1349 => ((gradineplain_Words.f kj9 t1329 t1349).bind fun t1352 => (if t1352 = true then ((gcd_Coprime.f kj9 l0 l1).bind fun t1353 => (if (t1325.length : Int) = 1 then (if 0 < (t1325.length : Int) then (if (t1353 == ((rd t1325 0) == 1)) = true then ((gradinelaw05_same.f kj9).bind fun t1355 => (some t1355)) else (some false)) else (none)) else (if (t1353 == false) = true then ((gradinelaw05_same.f kj9).bind fun t1356 => (some t1356)) else (some false)))) else (some false)))) else (some false))) = some r := H
       have A30 := Aside0.mk A300
       clear A300
       replace H := Option.bind_eq_some_iff.mp H
       obtain ⟨t1348, A310, H⟩ := H
       replace H : (if t1348 = true then ((gradineref05_Part.f kj9 l1 t1325).bind fun t1349 => ((gradineplain_Words.f kj9 t1329 t1349).bind fun t1352 => (if t1352 = true then ((gcd_Coprime.f kj9 l0 l1).bind fun t1353 => (if (t1325.length : Int) = 1 then (if 0 < (t1325.length : Int) then (if (t1353 == ((rd t1325 0) == 1)) = true then ((gradinelaw05_same.f kj9).bind fun t1355 => (some t1355)) else (some false)) else (none)) else (if (t1353 == false) = true then ((gradinelaw05_same.f kj9).bind fun t1356 => (some t1356)) else (some false)))) else (some false)))) else (some false)) = some r := H
       have A31 := Aside0.mk A310
       clear A310
       by_cases c32 : t1348 = true
       ·subst c32
        have H1 : ((gradineref05_Part.f kj9 l1 t1325).bind fun t1349 => ((gradineplain_Words.f kj9 t1329 t1349).bind fun t1352 => (if t1352 = true then ((gcd_Coprime.f kj9 l0 l1).bind fun t1353 => (if (t1325.length : Int) = 1 then (if 0 < (t1325.length : Int) then (if (t1353 == ((rd t1325 0) == 1)) = true then ((gradinelaw05_same.f kj9).bind fun t1355 => (some t1355)) else (some false)) else (none)) else (if (t1353 == false) = true then ((gradinelaw05_same.f kj9).bind fun t1356 => (some t1356)) else (some false)))) else (some false)))) = some r := by rw [if_pos rfl] at H; exact H
        clear H
        have H := H1
        clear H1
        replace H := Option.bind_eq_some_iff.mp H
        obtain ⟨t1349, A330, H⟩ := H
        replace H : ((gradineplain_Words.f kj9 t1329 t1349).bind fun t1352 => (if t1352 = true then ((gcd_Coprime.f kj9 l0 l1).bind fun t1353 => (if (t1325.length : Int) = 1 then (if 0 < (t1325.length : Int) then (if (t1353 == ((rd t1325 0) == 1)) = true then ((gradinelaw05_same.f kj9).bind fun t1355 => (some t1355)) else (some false)) else (none)) else (if (t1353 == false) = true then ((gradinelaw05_same.f kj9).bind fun t1356 => (some t1356)) else (some false)))) else (some false))) = some r := H
        have A33 := Aside0.mk A330
        clear A330
        replace H := Option.bind_eq_some_iff.mp H
        obtain ⟨t1352, A340, H⟩ := H
        replace H : (if t1352 = true then ((gcd_Coprime.f kj9 l0 l1).bind fun t1353 => (if (t1325.length : Int) = 1 then (if 0 < (t1325.length : Int) then (if (t1353 == ((rd t1325 0) == 1)) = true then ((gradinelaw05_same.f kj9).bind fun t1355 => (some t1355)) else (some false)) else (none)) else (if (t1353 == false) = true then ((gradinelaw05_same.f kj9).bind fun t1356 => (some t1356)) else (some false)))) else (some false)) = some r := H
        have A34 := Aside0.mk A340
        clear A340
        by_cases c35 : t1352 = true
        ·subst c35
         have H1 : ((gcd_Coprime.f kj9 l0 l1).bind fun t1353 => (if (t1325.length : Int) = 1 then (if 0 < (t1325.length : Int) then (if (t1353 == ((rd t1325 0) == 1)) = true then ((gradinelaw05_same.f kj9).bind fun t1355 => (some t1355)) else (some false)) else (none)) else (if (t1353 == false) = true then ((gradinelaw05_same.f kj9).bind fun t1356 => (some t1356)) else (some false)))) = some r := by rw [if_pos rfl] at H; exact H
         clear H
         have H := H1
         clear H1
         replace H := Option.bind_eq_some_iff.mp H
         obtain ⟨t1353, A360, H⟩ := H
         replace H : (if (t1325.length : Int) = 1 then (if 0 < (t1325.length : Int) then (if (t1353 == ((rd t1325 0) == 1)) = true then ((gradinelaw05_same.f kj9).bind fun t1355 => (some t1355)) else (some false)) else (none)) else (if (t1353 == false) = true then ((gradinelaw05_same.f kj9).bind fun t1356 => (some t1356)) else (some false))) = some r := H
         have A36 := Aside0.mk A360
         clear A360
         by_cases c37 : (t1325.length : Int) = 1
         ·rw [if_pos c37] at H
          have c37b0 : ((t1325.length : Int) == 1) = true := beq_iff_eq.mpr c37
          have c37b1 : ((t1325.length : Int) != 1) = false := bne_eq_false_iff_eq.mpr c37
          clear c37
          by_cases c38 : 0 < (t1325.length : Int)
          ·rw [if_pos c38] at H
           have c38b0 : decide (0 < (t1325.length : Int)) = true := decide_eq_true c38
           have c38b1 : decide (0 < t1325.length) = true := decide_eq_true (by omega)
           clear c38
           by_cases c39 : (t1353 == ((rd t1325 0) == 1)) = true
           ·rw [if_pos c39] at H
            have c39b0 : (t1353 == ((rd t1325 0) == 1)) = true := c39
            (try (have c39b1 : decide (t1353 = ((rd t1325 0) == 1)) = true := by simpa using c39))
            (try (have c39b2 : (t1353 == ((rd t1325 0) == 1)) = true := by simpa using c39))
            clear c39
            replace H := Option.bind_eq_some_iff.mp H
            obtain ⟨t1355, A400, H⟩ := H
            replace H : (some t1355) = some r := H
            have A40 := Aside0.mk A400
            clear A400
            obtain rfl := Option.some.inj H
            obtain ⟨Ao41, co41, eo41⟩ := Kd.R_slice HO_5.out
            subst eo41
            go_wp2_with (first | ((with_reducible refine gate_callee (f := 95) rfl ?_); refine goesL_ (some 45) rfl rfl Try.func95 (by kernel_rfl) rfl #[.slice A0 l0.length c0, .slice Ao41 t1325.length co41] rfl (by (try simp only [List.map_toArray, List.map_cons, List.map_nil]); first | done | rfl | (simp only [List.length_drop, List.length_take]; rfl) | (simp only [*]; done)) ?_; (with_reducible refine (gradineref05_Part.calls kj9 _ _ l0 _ _ t1325 t1345 _ ?side1 ?side2 ?side3 ?side4 A30.out).mono ?_); (case side1 => exact cs (Kd.C_below HR0.out HB.out)); (case side2 => exact HC0.out); (case side3 => exact cs (Kd.R_reads' HO_5.out).2.2); (case side4 => exact (Kd.R_reads' HO_5.out).2.1); rintro e w42 ⟨v1346, rfl, ho0, hb⟩; refine ⟨_, rfl, ?_⟩; have n0_ := Aside0.mk (Kd.R_elder' (st HO_5.out) (Kd.R_base ho0) hb); have n1_ := Aside0.mk (Kd.R_elder' (st HO_6.out) (Kd.R_base ho0) hb); have n2_ := Aside0.mk (Kd.R_elder' (st HO_7.out) (Kd.R_base ho0) hb); have n3_ := Aside0.mk (Kd.R_lower (Kd.R_new' (Kd.R_new' (Kd.R_new' ho0 (Kd.R_lt (st HO_5.out))) (Kd.R_lt (st HO_6.out))) (Kd.R_lt (st HO_7.out))) (below_size (bb HB.out))); have n4_ := Aside0.mk (below_step (bb HB.out) hb); clear HO_5; clear HO_6; clear HO_7; clear HB; have HO_5 := n0_; have HO_6 := n1_; have HO_7 := n2_; have HO1347 := n3_; have HB := n4_; clear n0_ n1_ n2_ n3_ n4_; (try clear hb); (try clear hb2); (try clear hk); (try clear hi); (try clear ho0); obtain ⟨Ao43, co43, eo43⟩ := Kd.R_slice HO_6.out; subst eo43; obtain ⟨Ao44, co44, eo44⟩ := Kd.R_slice HO1347.out; subst eo44) | ((with_reducible refine gate_callee (f := 46) rfl ?_); refine goesL_ (some 46) rfl rfl Try.func46 (by kernel_rfl) rfl #[.slice Ao43 t1328.length co43, .slice Ao44 t1345.length co44] rfl (by (try simp only [List.map_toArray, List.map_cons, List.map_nil]); first | done | rfl | (simp only [List.length_drop, List.length_take]; rfl) | (simp only [*]; done)) ?_; (with_reducible refine (gradineplain_Words.calls kj9 _ _ t1328 _ _ t1345 true _ ?side1 ?side2 ?side3 ?side4 A31.out).mono ?_); (case side1 => exact cs (Kd.R_reads' HO_6.out).2.2); (case side2 => exact (Kd.R_reads' HO_6.out).2.1); (case side3 => exact cs (Kd.R_reads' HO1347.out).2.2); (case side4 => exact (Kd.R_reads' HO1347.out).2.1); rintro e w' ⟨rfl, ⟨nd, rfl⟩⟩; refine ⟨_, rfl, ?_⟩) | (go_at_call 95; (with_reducible refine (gradineref05_Part.calls kj9 _ _ l1 _ _ t1325 t1349 _ ?side1 ?side2 ?side3 ?side4 A33.out).mono ?_); (case side1 => repeat (first | exact (Kd.C_below HR1.out (bb HB.out)) | (with_reducible refine Kd.C_alloc ?_ _) | (with_reducible refine Kd.C_drewN ?_ _) | (with_reducible refine Kd.C_drew ?_))); (case side2 => exact HC1.out); (case side3 => exact cs (Kd.R_reads' HO_5.out).2.2); (case side4 => exact (Kd.R_reads' HO_5.out).2.1); rintro e w45 ⟨v1350, rfl, ho0, hb⟩; have n0_ := Aside0.mk (Kd.R_elder' (st HO_5.out) (Kd.R_base ho0) hb); have n1_ := Aside0.mk (Kd.R_elder' (st HO_6.out) (Kd.R_base ho0) hb); have n2_ := Aside0.mk (Kd.R_elder' (st HO_7.out) (Kd.R_base ho0) hb); have n3_ := Aside0.mk (Kd.R_elder' (st HO1347.out) (Kd.R_base ho0) hb); have n4_ := Aside0.mk (Kd.R_lower (Kd.R_new' (Kd.R_new' (Kd.R_new' (Kd.R_new' ho0 (Kd.R_lt (st HO_5.out))) (Kd.R_lt (st HO_6.out))) (Kd.R_lt (st HO_7.out))) (Kd.R_lt (st HO1347.out))) (below_size (bb HB.out))); have n5_ := Aside0.mk (below_step (bb HB.out) hb); clear HO_5; clear HO_6; clear HO_7; clear HO1347; clear HB; have HO_5 := n0_; have HO_6 := n1_; have HO_7 := n2_; have HO1347 := n3_; have HO1351 := n4_; have HB := n5_; clear n0_ n1_ n2_ n3_ n4_ n5_; (try clear hb); (try clear hb2); (try clear hk); (try clear hi); (try clear ho0); obtain ⟨Ao46, co46, eo46⟩ := Kd.R_slice HO_7.out; subst eo46; obtain ⟨Ao47, co47, eo47⟩ := Kd.R_slice HO1351.out; subst eo47) | (go_at_call 46; (with_reducible refine (gradineplain_Words.calls kj9 _ _ t1329 _ _ t1349 true _ ?side1 ?side2 ?side3 ?side4 A34.out).mono ?_); (case side1 => exact cs (Kd.R_reads' HO_7.out).2.2); (case side2 => exact (Kd.R_reads' HO_7.out).2.1); (case side3 => exact cs (Kd.R_reads' HO1351.out).2.2); (case side4 => exact (Kd.R_reads' HO1351.out).2.1); rintro e w' ⟨rfl, ⟨nd, rfl⟩⟩) | (go_at_call 96; (with_reducible refine (gcd_Coprime.calls kj9 _ _ l0 _ _ l1 t1353 _ ?side1 ?side2 ?side3 ?side4 A36.out).mono ?_); (case side1 => repeat (first | exact (Kd.C_below HR0.out (bb HB.out)) | (with_reducible refine Kd.C_alloc ?_ _) | (with_reducible refine Kd.C_drewN ?_ _) | (with_reducible refine Kd.C_drew ?_))); (case side2 => exact HC0.out); (case side3 => repeat (first | exact (Kd.C_below HR1.out (bb HB.out)) | (with_reducible refine Kd.C_alloc ?_ _) | (with_reducible refine Kd.C_drewN ?_ _) | (with_reducible refine Kd.C_drew ?_))); (case side4 => exact HC1.out); rintro e w48 ⟨rfl, hb⟩; have n0_ := Aside0.mk (Kd.R_below (st HO_5.out) hb); have n1_ := Aside0.mk (Kd.R_below (st HO_6.out) hb); have n2_ := Aside0.mk (Kd.R_below (st HO_7.out) hb); have n3_ := Aside0.mk (Kd.R_below (st HO1347.out) hb); have n4_ := Aside0.mk (Kd.R_below (st HO1351.out) hb); have n5_ := Aside0.mk (below_step (bb HB.out) hb); clear HO_5; clear HO_6; clear HO_7; clear HO1347; clear HO1351; clear HB; have HO_5 := n0_; have HO_6 := n1_; have HO_7 := n2_; have HO1347 := n3_; have HO1351 := n4_; have HB := n5_; clear n0_ n1_ n2_ n3_ n4_ n5_; (try clear hb); (try clear hb2); (try clear hk); (try clear hi); have p1354 : 0 ≤ (0 : Int) := (by omega); have q1354 : 0 < (t1325.length : Int) := of_decide_eq_true (by first | (with_reducible assumption) | assumption); obtain ⟨ad1354, e1354, hx1354_0⟩ := Kd.at_int (Kd.R_reads' HO_5.out).2.2 0 p1354 q1354; cases e1354; have qi1354 : (0 < t1325.length) = True := eq_true (by omega); (try rw [show ((0 : Int)).toNat = 0 from rfl] at hx1354_0); (try rw [Addr.add_zero'] at hx1354_0); replace p1354 := eq_true p1354; replace q1354 := eq_true q1354) | (go_at_call 85; (with_reducible refine (gradinelaw05_same.calls kj9  t1355 _ A40.out).mono ?_); rintro e w49 ⟨rfl, hb⟩; have n0_ := Aside0.mk (Kd.R_below (st HO_5.out) hb); have n1_ := Aside0.mk (Kd.R_below (st HO_6.out) hb); have n2_ := Aside0.mk (Kd.R_below (st HO_7.out) hb); have n3_ := Aside0.mk (Kd.R_below (st HO1347.out) hb); have n4_ := Aside0.mk (Kd.R_below (st HO1351.out) hb); have n5_ := Aside0.mk (below_step (bb HB.out) hb); clear HO_5; clear HO_6; clear HO_7; clear HO1347; clear HO1351; clear HB; have HO_5 := n0_; have HO_6 := n1_; have HO_7 := n2_; have HO1347 := n3_; have HO1351 := n4_; have HB := n5_; clear n0_ n1_ n2_ n3_ n4_ n5_))
            go_ret
            exact ⟨by first | rfl | (simp [errW_none, errW_some] <;> rfl) | (simp [*, errW_none, errW_some] <;> rfl), by repeat (first | (with_reducible first | exact HB.out | apply below_alloc | apply pw_below_drewN | apply below_drew1) | exact HB.out)⟩
           ·rw [if_neg c39] at H
            have c39b0 : (t1353 == ((rd t1325 0) == 1)) = false := by simpa using c39
            (try (have c39b1 : decide (t1353 = ((rd t1325 0) == 1)) = false := by simpa using c39))
            (try (have c39b2 : (t1353 == ((rd t1325 0) == 1)) = false := by simpa using c39))
            (try (have c39b3 : ¬ (t1353 = ((rd t1325 0) == 1)) := by simpa using c39))
            clear c39
            obtain rfl := Option.some.inj H
            obtain ⟨Ao50, co50, eo50⟩ := Kd.R_slice HO_5.out
            subst eo50
            go_wp2_with (first | ((with_reducible refine gate_callee (f := 95) rfl ?_); refine goesL_ (some 45) rfl rfl Try.func95 (by kernel_rfl) rfl #[.slice A0 l0.length c0, .slice Ao50 t1325.length co50] rfl (by (try simp only [List.map_toArray, List.map_cons, List.map_nil]); first | done | rfl | (simp only [List.length_drop, List.length_take]; rfl) | (simp only [*]; done)) ?_; (with_reducible refine (gradineref05_Part.calls kj9 _ _ l0 _ _ t1325 t1345 _ ?side1 ?side2 ?side3 ?side4 A30.out).mono ?_); (case side1 => exact cs (Kd.C_below HR0.out HB.out)); (case side2 => exact HC0.out); (case side3 => exact cs (Kd.R_reads' HO_5.out).2.2); (case side4 => exact (Kd.R_reads' HO_5.out).2.1); rintro e w51 ⟨v1346, rfl, ho0, hb⟩; refine ⟨_, rfl, ?_⟩; have n0_ := Aside0.mk (Kd.R_elder' (st HO_5.out) (Kd.R_base ho0) hb); have n1_ := Aside0.mk (Kd.R_elder' (st HO_6.out) (Kd.R_base ho0) hb); have n2_ := Aside0.mk (Kd.R_elder' (st HO_7.out) (Kd.R_base ho0) hb); have n3_ := Aside0.mk (Kd.R_lower (Kd.R_new' (Kd.R_new' (Kd.R_new' ho0 (Kd.R_lt (st HO_5.out))) (Kd.R_lt (st HO_6.out))) (Kd.R_lt (st HO_7.out))) (below_size (bb HB.out))); have n4_ := Aside0.mk (below_step (bb HB.out) hb); clear HO_5; clear HO_6; clear HO_7; clear HB; have HO_5 := n0_; have HO_6 := n1_; have HO_7 := n2_; have HO1347 := n3_; have HB := n4_; clear n0_ n1_ n2_ n3_ n4_; (try clear hb); (try clear hb2); (try clear hk); (try clear hi); (try clear ho0); obtain ⟨Ao52, co52, eo52⟩ := Kd.R_slice HO_6.out; subst eo52; obtain ⟨Ao53, co53, eo53⟩ := Kd.R_slice HO1347.out; subst eo53) | ((with_reducible refine gate_callee (f := 46) rfl ?_); refine goesL_ (some 46) rfl rfl Try.func46 (by kernel_rfl) rfl #[.slice Ao52 t1328.length co52, .slice Ao53 t1345.length co53] rfl (by (try simp only [List.map_toArray, List.map_cons, List.map_nil]); first | done | rfl | (simp only [List.length_drop, List.length_take]; rfl) | (simp only [*]; done)) ?_; (with_reducible refine (gradineplain_Words.calls kj9 _ _ t1328 _ _ t1345 true _ ?side1 ?side2 ?side3 ?side4 A31.out).mono ?_); (case side1 => exact cs (Kd.R_reads' HO_6.out).2.2); (case side2 => exact (Kd.R_reads' HO_6.out).2.1); (case side3 => exact cs (Kd.R_reads' HO1347.out).2.2); (case side4 => exact (Kd.R_reads' HO1347.out).2.1); rintro e w' ⟨rfl, ⟨nd, rfl⟩⟩; refine ⟨_, rfl, ?_⟩) | (go_at_call 95; (with_reducible refine (gradineref05_Part.calls kj9 _ _ l1 _ _ t1325 t1349 _ ?side1 ?side2 ?side3 ?side4 A33.out).mono ?_); (case side1 => repeat (first | exact (Kd.C_below HR1.out (bb HB.out)) | (with_reducible refine Kd.C_alloc ?_ _) | (with_reducible refine Kd.C_drewN ?_ _) | (with_reducible refine Kd.C_drew ?_))); (case side2 => exact HC1.out); (case side3 => exact cs (Kd.R_reads' HO_5.out).2.2); (case side4 => exact (Kd.R_reads' HO_5.out).2.1); rintro e w54 ⟨v1350, rfl, ho0, hb⟩; have n0_ := Aside0.mk (Kd.R_elder' (st HO_5.out) (Kd.R_base ho0) hb); have n1_ := Aside0.mk (Kd.R_elder' (st HO_6.out) (Kd.R_base ho0) hb); have n2_ := Aside0.mk (Kd.R_elder' (st HO_7.out) (Kd.R_base ho0) hb); have n3_ := Aside0.mk (Kd.R_elder' (st HO1347.out) (Kd.R_base ho0) hb); have n4_ := Aside0.mk (Kd.R_lower (Kd.R_new' (Kd.R_new' (Kd.R_new' (Kd.R_new' ho0 (Kd.R_lt (st HO_5.out))) (Kd.R_lt (st HO_6.out))) (Kd.R_lt (st HO_7.out))) (Kd.R_lt (st HO1347.out))) (below_size (bb HB.out))); have n5_ := Aside0.mk (below_step (bb HB.out) hb); clear HO_5; clear HO_6; clear HO_7; clear HO1347; clear HB; have HO_5 := n0_; have HO_6 := n1_; have HO_7 := n2_; have HO1347 := n3_; have HO1351 := n4_; have HB := n5_; clear n0_ n1_ n2_ n3_ n4_ n5_; (try clear hb); (try clear hb2); (try clear hk); (try clear hi); (try clear ho0); obtain ⟨Ao55, co55, eo55⟩ := Kd.R_slice HO_7.out; subst eo55; obtain ⟨Ao56, co56, eo56⟩ := Kd.R_slice HO1351.out; subst eo56) | (go_at_call 46; (with_reducible refine (gradineplain_Words.calls kj9 _ _ t1329 _ _ t1349 true _ ?side1 ?side2 ?side3 ?side4 A34.out).mono ?_); (case side1 => exact cs (Kd.R_reads' HO_7.out).2.2); (case side2 => exact (Kd.R_reads' HO_7.out).2.1); (case side3 => exact cs (Kd.R_reads' HO1351.out).2.2); (case side4 => exact (Kd.R_reads' HO1351.out).2.1); rintro e w' ⟨rfl, ⟨nd, rfl⟩⟩) | (go_at_call 96; (with_reducible refine (gcd_Coprime.calls kj9 _ _ l0 _ _ l1 t1353 _ ?side1 ?side2 ?side3 ?side4 A36.out).mono ?_); (case side1 => repeat (first | exact (Kd.C_below HR0.out (bb HB.out)) | (with_reducible refine Kd.C_alloc ?_ _) | (with_reducible refine Kd.C_drewN ?_ _) | (with_reducible refine Kd.C_drew ?_))); (case side2 => exact HC0.out); (case side3 => repeat (first | exact (Kd.C_below HR1.out (bb HB.out)) | (with_reducible refine Kd.C_alloc ?_ _) | (with_reducible refine Kd.C_drewN ?_ _) | (with_reducible refine Kd.C_drew ?_))); (case side4 => exact HC1.out); rintro e w57 ⟨rfl, hb⟩; have n0_ := Aside0.mk (Kd.R_below (st HO_5.out) hb); have n1_ := Aside0.mk (Kd.R_below (st HO_6.out) hb); have n2_ := Aside0.mk (Kd.R_below (st HO_7.out) hb); have n3_ := Aside0.mk (Kd.R_below (st HO1347.out) hb); have n4_ := Aside0.mk (Kd.R_below (st HO1351.out) hb); have n5_ := Aside0.mk (below_step (bb HB.out) hb); clear HO_5; clear HO_6; clear HO_7; clear HO1347; clear HO1351; clear HB; have HO_5 := n0_; have HO_6 := n1_; have HO_7 := n2_; have HO1347 := n3_; have HO1351 := n4_; have HB := n5_; clear n0_ n1_ n2_ n3_ n4_ n5_; (try clear hb); (try clear hb2); (try clear hk); (try clear hi); have p1354 : 0 ≤ (0 : Int) := (by omega); have q1354 : 0 < (t1325.length : Int) := of_decide_eq_true (by first | (with_reducible assumption) | assumption); obtain ⟨ad1354, e1354, hx1354_0⟩ := Kd.at_int (Kd.R_reads' HO_5.out).2.2 0 p1354 q1354; cases e1354; have qi1354 : (0 < t1325.length) = True := eq_true (by omega); (try rw [show ((0 : Int)).toNat = 0 from rfl] at hx1354_0); (try rw [Addr.add_zero'] at hx1354_0); replace p1354 := eq_true p1354; replace q1354 := eq_true q1354))
            go_ret
            exact ⟨by first | rfl | (simp [errW_none, errW_some] <;> rfl) | (simp [*, errW_none, errW_some] <;> rfl), by repeat (first | (with_reducible first | exact HB.out | apply below_alloc | apply pw_below_drewN | apply below_drew1) | exact HB.out)⟩
          ·rw [if_neg c38] at H
           exact absurd H (by simp)
         ·rw [if_neg c37] at H
          have c37b0 : ((t1325.length : Int) == 1) = false := beq_eq_false_iff_ne.mpr c37
          have c37b1 : ((t1325.length : Int) != 1) = true := bne_iff_ne.mpr c37
          by_cases c58 : (t1353 == false) = true
          ·rw [if_pos c58] at H
           have c58b0 : (t1353 == false) = true := c58
           (try (have c58b1 : decide (t1353 = false) = true := by simpa using c58))
           (try (have c58b2 : (t1353 == false) = true := by simpa using c58))
           clear c58
           replace H := Option.bind_eq_some_iff.mp H
           obtain ⟨t1356, A590, H⟩ := H
           replace H : (some t1356) = some r := H
           have A59 := Aside0.mk A590
           clear A590
           obtain rfl := Option.some.inj H
           obtain ⟨Ao60, co60, eo60⟩ := Kd.R_slice HO_5.out
           subst eo60
           go_wp2_with (first | ((with_reducible refine gate_callee (f := 95) rfl ?_); refine goesL_ (some 45) rfl rfl Try.func95 (by kernel_rfl) rfl #[.slice A0 l0.length c0, .slice Ao60 t1325.length co60] rfl (by (try simp only [List.map_toArray, List.map_cons, List.map_nil]); first | done | rfl | (simp only [List.length_drop, List.length_take]; rfl) | (simp only [*]; done)) ?_; (with_reducible refine (gradineref05_Part.calls kj9 _ _ l0 _ _ t1325 t1345 _ ?side1 ?side2 ?side3 ?side4 A30.out).mono ?_); (case side1 => exact cs (Kd.C_below HR0.out HB.out)); (case side2 => exact HC0.out); (case side3 => exact cs (Kd.R_reads' HO_5.out).2.2); (case side4 => exact (Kd.R_reads' HO_5.out).2.1); rintro e w61 ⟨v1346, rfl, ho0, hb⟩; refine ⟨_, rfl, ?_⟩; have n0_ := Aside0.mk (Kd.R_elder' (st HO_5.out) (Kd.R_base ho0) hb); have n1_ := Aside0.mk (Kd.R_elder' (st HO_6.out) (Kd.R_base ho0) hb); have n2_ := Aside0.mk (Kd.R_elder' (st HO_7.out) (Kd.R_base ho0) hb); have n3_ := Aside0.mk (Kd.R_lower (Kd.R_new' (Kd.R_new' (Kd.R_new' ho0 (Kd.R_lt (st HO_5.out))) (Kd.R_lt (st HO_6.out))) (Kd.R_lt (st HO_7.out))) (below_size (bb HB.out))); have n4_ := Aside0.mk (below_step (bb HB.out) hb); clear HO_5; clear HO_6; clear HO_7; clear HB; have HO_5 := n0_; have HO_6 := n1_; have HO_7 := n2_; have HO1347 := n3_; have HB := n4_; clear n0_ n1_ n2_ n3_ n4_; (try clear hb); (try clear hb2); (try clear hk); (try clear hi); (try clear ho0); obtain ⟨Ao62, co62, eo62⟩ := Kd.R_slice HO_6.out; subst eo62; obtain ⟨Ao63, co63, eo63⟩ := Kd.R_slice HO1347.out; subst eo63) | ((with_reducible refine gate_callee (f := 46) rfl ?_); refine goesL_ (some 46) rfl rfl Try.func46 (by kernel_rfl) rfl #[.slice Ao62 t1328.length co62, .slice Ao63 t1345.length co63] rfl (by (try simp only [List.map_toArray, List.map_cons, List.map_nil]); first | done | rfl | (simp only [List.length_drop, List.length_take]; rfl) | (simp only [*]; done)) ?_; (with_reducible refine (gradineplain_Words.calls kj9 _ _ t1328 _ _ t1345 true _ ?side1 ?side2 ?side3 ?side4 A31.out).mono ?_); (case side1 => exact cs (Kd.R_reads' HO_6.out).2.2); (case side2 => exact (Kd.R_reads' HO_6.out).2.1); (case side3 => exact cs (Kd.R_reads' HO1347.out).2.2); (case side4 => exact (Kd.R_reads' HO1347.out).2.1); rintro e w' ⟨rfl, ⟨nd, rfl⟩⟩; refine ⟨_, rfl, ?_⟩) | (go_at_call 95; (with_reducible refine (gradineref05_Part.calls kj9 _ _ l1 _ _ t1325 t1349 _ ?side1 ?side2 ?side3 ?side4 A33.out).mono ?_); (case side1 => repeat (first | exact (Kd.C_below HR1.out (bb HB.out)) | (with_reducible refine Kd.C_alloc ?_ _) | (with_reducible refine Kd.C_drewN ?_ _) | (with_reducible refine Kd.C_drew ?_))); (case side2 => exact HC1.out); (case side3 => exact cs (Kd.R_reads' HO_5.out).2.2); (case side4 => exact (Kd.R_reads' HO_5.out).2.1); rintro e w64 ⟨v1350, rfl, ho0, hb⟩; have n0_ := Aside0.mk (Kd.R_elder' (st HO_5.out) (Kd.R_base ho0) hb); have n1_ := Aside0.mk (Kd.R_elder' (st HO_6.out) (Kd.R_base ho0) hb); have n2_ := Aside0.mk (Kd.R_elder' (st HO_7.out) (Kd.R_base ho0) hb); have n3_ := Aside0.mk (Kd.R_elder' (st HO1347.out) (Kd.R_base ho0) hb); have n4_ := Aside0.mk (Kd.R_lower (Kd.R_new' (Kd.R_new' (Kd.R_new' (Kd.R_new' ho0 (Kd.R_lt (st HO_5.out))) (Kd.R_lt (st HO_6.out))) (Kd.R_lt (st HO_7.out))) (Kd.R_lt (st HO1347.out))) (below_size (bb HB.out))); have n5_ := Aside0.mk (below_step (bb HB.out) hb); clear HO_5; clear HO_6; clear HO_7; clear HO1347; clear HB; have HO_5 := n0_; have HO_6 := n1_; have HO_7 := n2_; have HO1347 := n3_; have HO1351 := n4_; have HB := n5_; clear n0_ n1_ n2_ n3_ n4_ n5_; (try clear hb); (try clear hb2); (try clear hk); (try clear hi); (try clear ho0); obtain ⟨Ao65, co65, eo65⟩ := Kd.R_slice HO_7.out; subst eo65; obtain ⟨Ao66, co66, eo66⟩ := Kd.R_slice HO1351.out; subst eo66) | (go_at_call 46; (with_reducible refine (gradineplain_Words.calls kj9 _ _ t1329 _ _ t1349 true _ ?side1 ?side2 ?side3 ?side4 A34.out).mono ?_); (case side1 => exact cs (Kd.R_reads' HO_7.out).2.2); (case side2 => exact (Kd.R_reads' HO_7.out).2.1); (case side3 => exact cs (Kd.R_reads' HO1351.out).2.2); (case side4 => exact (Kd.R_reads' HO1351.out).2.1); rintro e w' ⟨rfl, ⟨nd, rfl⟩⟩) | (go_at_call 96; (with_reducible refine (gcd_Coprime.calls kj9 _ _ l0 _ _ l1 t1353 _ ?side1 ?side2 ?side3 ?side4 A36.out).mono ?_); (case side1 => repeat (first | exact (Kd.C_below HR0.out (bb HB.out)) | (with_reducible refine Kd.C_alloc ?_ _) | (with_reducible refine Kd.C_drewN ?_ _) | (with_reducible refine Kd.C_drew ?_))); (case side2 => exact HC0.out); (case side3 => repeat (first | exact (Kd.C_below HR1.out (bb HB.out)) | (with_reducible refine Kd.C_alloc ?_ _) | (with_reducible refine Kd.C_drewN ?_ _) | (with_reducible refine Kd.C_drew ?_))); (case side4 => exact HC1.out); rintro e w67 ⟨rfl, hb⟩; have n0_ := Aside0.mk (Kd.R_below (st HO_5.out) hb); have n1_ := Aside0.mk (Kd.R_below (st HO_6.out) hb); have n2_ := Aside0.mk (Kd.R_below (st HO_7.out) hb); have n3_ := Aside0.mk (Kd.R_below (st HO1347.out) hb); have n4_ := Aside0.mk (Kd.R_below (st HO1351.out) hb); have n5_ := Aside0.mk (below_step (bb HB.out) hb); clear HO_5; clear HO_6; clear HO_7; clear HO1347; clear HO1351; clear HB; have HO_5 := n0_; have HO_6 := n1_; have HO_7 := n2_; have HO1347 := n3_; have HO1351 := n4_; have HB := n5_; clear n0_ n1_ n2_ n3_ n4_ n5_) | (go_at_call 85; (with_reducible refine (gradinelaw05_same.calls kj9  t1356 _ A59.out).mono ?_); rintro e w68 ⟨rfl, hb⟩; have n0_ := Aside0.mk (Kd.R_below (st HO_5.out) hb); have n1_ := Aside0.mk (Kd.R_below (st HO_6.out) hb); have n2_ := Aside0.mk (Kd.R_below (st HO_7.out) hb); have n3_ := Aside0.mk (Kd.R_below (st HO1347.out) hb); have n4_ := Aside0.mk (Kd.R_below (st HO1351.out) hb); have n5_ := Aside0.mk (below_step (bb HB.out) hb); clear HO_5; clear HO_6; clear HO_7; clear HO1347; clear HO1351; clear HB; have HO_5 := n0_; have HO_6 := n1_; have HO_7 := n2_; have HO1347 := n3_; have HO1351 := n4_; have HB := n5_; clear n0_ n1_ n2_ n3_ n4_ n5_))
           go_ret
           exact ⟨by first | rfl | (simp [errW_none, errW_some] <;> rfl) | (simp [*, errW_none, errW_some] <;> rfl), by repeat (first | (with_reducible first | exact HB.out | apply below_alloc | apply pw_below_drewN | apply below_drew1) | exact HB.out)⟩
          ·rw [if_neg c58] at H
           have c58b0 : (t1353 == false) = false := by simpa using c58
           (try (have c58b1 : decide (t1353 = false) = false := by simpa using c58))
           (try (have c58b2 : (t1353 == false) = false := by simpa using c58))
           (try (have c58b3 : ¬ (t1353 = false) := by simpa using c58))
           clear c58
           obtain rfl := Option.some.inj H
           obtain ⟨Ao69, co69, eo69⟩ := Kd.R_slice HO_5.out
           subst eo69
           go_wp2_with (first | ((with_reducible refine gate_callee (f := 95) rfl ?_); refine goesL_ (some 45) rfl rfl Try.func95 (by kernel_rfl) rfl #[.slice A0 l0.length c0, .slice Ao69 t1325.length co69] rfl (by (try simp only [List.map_toArray, List.map_cons, List.map_nil]); first | done | rfl | (simp only [List.length_drop, List.length_take]; rfl) | (simp only [*]; done)) ?_; (with_reducible refine (gradineref05_Part.calls kj9 _ _ l0 _ _ t1325 t1345 _ ?side1 ?side2 ?side3 ?side4 A30.out).mono ?_); (case side1 => exact cs (Kd.C_below HR0.out HB.out)); (case side2 => exact HC0.out); (case side3 => exact cs (Kd.R_reads' HO_5.out).2.2); (case side4 => exact (Kd.R_reads' HO_5.out).2.1); rintro e w70 ⟨v1346, rfl, ho0, hb⟩; refine ⟨_, rfl, ?_⟩; have n0_ := Aside0.mk (Kd.R_elder' (st HO_5.out) (Kd.R_base ho0) hb); have n1_ := Aside0.mk (Kd.R_elder' (st HO_6.out) (Kd.R_base ho0) hb); have n2_ := Aside0.mk (Kd.R_elder' (st HO_7.out) (Kd.R_base ho0) hb); have n3_ := Aside0.mk (Kd.R_lower (Kd.R_new' (Kd.R_new' (Kd.R_new' ho0 (Kd.R_lt (st HO_5.out))) (Kd.R_lt (st HO_6.out))) (Kd.R_lt (st HO_7.out))) (below_size (bb HB.out))); have n4_ := Aside0.mk (below_step (bb HB.out) hb); clear HO_5; clear HO_6; clear HO_7; clear HB; have HO_5 := n0_; have HO_6 := n1_; have HO_7 := n2_; have HO1347 := n3_; have HB := n4_; clear n0_ n1_ n2_ n3_ n4_; (try clear hb); (try clear hb2); (try clear hk); (try clear hi); (try clear ho0); obtain ⟨Ao71, co71, eo71⟩ := Kd.R_slice HO_6.out; subst eo71; obtain ⟨Ao72, co72, eo72⟩ := Kd.R_slice HO1347.out; subst eo72) | ((with_reducible refine gate_callee (f := 46) rfl ?_); refine goesL_ (some 46) rfl rfl Try.func46 (by kernel_rfl) rfl #[.slice Ao71 t1328.length co71, .slice Ao72 t1345.length co72] rfl (by (try simp only [List.map_toArray, List.map_cons, List.map_nil]); first | done | rfl | (simp only [List.length_drop, List.length_take]; rfl) | (simp only [*]; done)) ?_; (with_reducible refine (gradineplain_Words.calls kj9 _ _ t1328 _ _ t1345 true _ ?side1 ?side2 ?side3 ?side4 A31.out).mono ?_); (case side1 => exact cs (Kd.R_reads' HO_6.out).2.2); (case side2 => exact (Kd.R_reads' HO_6.out).2.1); (case side3 => exact cs (Kd.R_reads' HO1347.out).2.2); (case side4 => exact (Kd.R_reads' HO1347.out).2.1); rintro e w' ⟨rfl, ⟨nd, rfl⟩⟩; refine ⟨_, rfl, ?_⟩) | (go_at_call 95; (with_reducible refine (gradineref05_Part.calls kj9 _ _ l1 _ _ t1325 t1349 _ ?side1 ?side2 ?side3 ?side4 A33.out).mono ?_); (case side1 => repeat (first | exact (Kd.C_below HR1.out (bb HB.out)) | (with_reducible refine Kd.C_alloc ?_ _) | (with_reducible refine Kd.C_drewN ?_ _) | (with_reducible refine Kd.C_drew ?_))); (case side2 => exact HC1.out); (case side3 => exact cs (Kd.R_reads' HO_5.out).2.2); (case side4 => exact (Kd.R_reads' HO_5.out).2.1); rintro e w73 ⟨v1350, rfl, ho0, hb⟩; have n0_ := Aside0.mk (Kd.R_elder' (st HO_5.out) (Kd.R_base ho0) hb); have n1_ := Aside0.mk (Kd.R_elder' (st HO_6.out) (Kd.R_base ho0) hb); have n2_ := Aside0.mk (Kd.R_elder' (st HO_7.out) (Kd.R_base ho0) hb); have n3_ := Aside0.mk (Kd.R_elder' (st HO1347.out) (Kd.R_base ho0) hb); have n4_ := Aside0.mk (Kd.R_lower (Kd.R_new' (Kd.R_new' (Kd.R_new' (Kd.R_new' ho0 (Kd.R_lt (st HO_5.out))) (Kd.R_lt (st HO_6.out))) (Kd.R_lt (st HO_7.out))) (Kd.R_lt (st HO1347.out))) (below_size (bb HB.out))); have n5_ := Aside0.mk (below_step (bb HB.out) hb); clear HO_5; clear HO_6; clear HO_7; clear HO1347; clear HB; have HO_5 := n0_; have HO_6 := n1_; have HO_7 := n2_; have HO1347 := n3_; have HO1351 := n4_; have HB := n5_; clear n0_ n1_ n2_ n3_ n4_ n5_; (try clear hb); (try clear hb2); (try clear hk); (try clear hi); (try clear ho0); obtain ⟨Ao74, co74, eo74⟩ := Kd.R_slice HO_7.out; subst eo74; obtain ⟨Ao75, co75, eo75⟩ := Kd.R_slice HO1351.out; subst eo75) | (go_at_call 46; (with_reducible refine (gradineplain_Words.calls kj9 _ _ t1329 _ _ t1349 true _ ?side1 ?side2 ?side3 ?side4 A34.out).mono ?_); (case side1 => exact cs (Kd.R_reads' HO_7.out).2.2); (case side2 => exact (Kd.R_reads' HO_7.out).2.1); (case side3 => exact cs (Kd.R_reads' HO1351.out).2.2); (case side4 => exact (Kd.R_reads' HO1351.out).2.1); rintro e w' ⟨rfl, ⟨nd, rfl⟩⟩) | (go_at_call 96; (with_reducible refine (gcd_Coprime.calls kj9 _ _ l0 _ _ l1 t1353 _ ?side1 ?side2 ?side3 ?side4 A36.out).mono ?_); (case side1 => repeat (first | exact (Kd.C_below HR0.out (bb HB.out)) | (with_reducible refine Kd.C_alloc ?_ _) | (with_reducible refine Kd.C_drewN ?_ _) | (with_reducible refine Kd.C_drew ?_))); (case side2 => exact HC0.out); (case side3 => repeat (first | exact (Kd.C_below HR1.out (bb HB.out)) | (with_reducible refine Kd.C_alloc ?_ _) | (with_reducible refine Kd.C_drewN ?_ _) | (with_reducible refine Kd.C_drew ?_))); (case side4 => exact HC1.out); rintro e w76 ⟨rfl, hb⟩; have n0_ := Aside0.mk (Kd.R_below (st HO_5.out) hb); have n1_ := Aside0.mk (Kd.R_below (st HO_6.out) hb); have n2_ := Aside0.mk (Kd.R_below (st HO_7.out) hb); have n3_ := Aside0.mk (Kd.R_below (st HO1347.out) hb); have n4_ := Aside0.mk (Kd.R_below (st HO1351.out) hb); have n5_ := Aside0.mk (below_step (bb HB.out) hb); clear HO_5; clear HO_6; clear HO_7; clear HO1347; clear HO1351; clear HB; have HO_5 := n0_; have HO_6 := n1_; have HO_7 := n2_; have HO1347 := n3_; have HO1351 := n4_; have HB := n5_; clear n0_ n1_ n2_ n3_ n4_ n5_))
           go_ret
           exact ⟨by first | rfl | (simp [errW_none, errW_some] <;> rfl) | (simp [*, errW_none, errW_some] <;> rfl), by repeat (first | (with_reducible first | exact HB.out | apply below_alloc | apply pw_below_drewN | apply below_drew1) | exact HB.out)⟩
        ·replace c35 := Bool.eq_false_iff.mpr c35
         subst c35
         have H1 : (some false) = some r := by rw [if_neg (show ¬ (false = true) by decide)] at H; exact H
         clear H
         have H := H1
         clear H1
         obtain rfl := Option.some.inj H
         obtain ⟨Ao77, co77, eo77⟩ := Kd.R_slice HO_5.out
         subst eo77
         go_wp2_with (first | ((with_reducible refine gate_callee (f := 95) rfl ?_); refine goesL_ (some 45) rfl rfl Try.func95 (by kernel_rfl) rfl #[.slice A0 l0.length c0, .slice Ao77 t1325.length co77] rfl (by (try simp only [List.map_toArray, List.map_cons, List.map_nil]); first | done | rfl | (simp only [List.length_drop, List.length_take]; rfl) | (simp only [*]; done)) ?_; (with_reducible refine (gradineref05_Part.calls kj9 _ _ l0 _ _ t1325 t1345 _ ?side1 ?side2 ?side3 ?side4 A30.out).mono ?_); (case side1 => exact cs (Kd.C_below HR0.out HB.out)); (case side2 => exact HC0.out); (case side3 => exact cs (Kd.R_reads' HO_5.out).2.2); (case side4 => exact (Kd.R_reads' HO_5.out).2.1); rintro e w78 ⟨v1346, rfl, ho0, hb⟩; refine ⟨_, rfl, ?_⟩; have n0_ := Aside0.mk (Kd.R_elder' (st HO_5.out) (Kd.R_base ho0) hb); have n1_ := Aside0.mk (Kd.R_elder' (st HO_6.out) (Kd.R_base ho0) hb); have n2_ := Aside0.mk (Kd.R_elder' (st HO_7.out) (Kd.R_base ho0) hb); have n3_ := Aside0.mk (Kd.R_lower (Kd.R_new' (Kd.R_new' (Kd.R_new' ho0 (Kd.R_lt (st HO_5.out))) (Kd.R_lt (st HO_6.out))) (Kd.R_lt (st HO_7.out))) (below_size (bb HB.out))); have n4_ := Aside0.mk (below_step (bb HB.out) hb); clear HO_5; clear HO_6; clear HO_7; clear HB; have HO_5 := n0_; have HO_6 := n1_; have HO_7 := n2_; have HO1347 := n3_; have HB := n4_; clear n0_ n1_ n2_ n3_ n4_; (try clear hb); (try clear hb2); (try clear hk); (try clear hi); (try clear ho0); obtain ⟨Ao79, co79, eo79⟩ := Kd.R_slice HO_6.out; subst eo79; obtain ⟨Ao80, co80, eo80⟩ := Kd.R_slice HO1347.out; subst eo80) | ((with_reducible refine gate_callee (f := 46) rfl ?_); refine goesL_ (some 46) rfl rfl Try.func46 (by kernel_rfl) rfl #[.slice Ao79 t1328.length co79, .slice Ao80 t1345.length co80] rfl (by (try simp only [List.map_toArray, List.map_cons, List.map_nil]); first | done | rfl | (simp only [List.length_drop, List.length_take]; rfl) | (simp only [*]; done)) ?_; (with_reducible refine (gradineplain_Words.calls kj9 _ _ t1328 _ _ t1345 true _ ?side1 ?side2 ?side3 ?side4 A31.out).mono ?_); (case side1 => exact cs (Kd.R_reads' HO_6.out).2.2); (case side2 => exact (Kd.R_reads' HO_6.out).2.1); (case side3 => exact cs (Kd.R_reads' HO1347.out).2.2); (case side4 => exact (Kd.R_reads' HO1347.out).2.1); rintro e w' ⟨rfl, ⟨nd, rfl⟩⟩; refine ⟨_, rfl, ?_⟩) | (go_at_call 95; (with_reducible refine (gradineref05_Part.calls kj9 _ _ l1 _ _ t1325 t1349 _ ?side1 ?side2 ?side3 ?side4 A33.out).mono ?_); (case side1 => repeat (first | exact (Kd.C_below HR1.out (bb HB.out)) | (with_reducible refine Kd.C_alloc ?_ _) | (with_reducible refine Kd.C_drewN ?_ _) | (with_reducible refine Kd.C_drew ?_))); (case side2 => exact HC1.out); (case side3 => exact cs (Kd.R_reads' HO_5.out).2.2); (case side4 => exact (Kd.R_reads' HO_5.out).2.1); rintro e w81 ⟨v1350, rfl, ho0, hb⟩; have n0_ := Aside0.mk (Kd.R_elder' (st HO_5.out) (Kd.R_base ho0) hb); have n1_ := Aside0.mk (Kd.R_elder' (st HO_6.out) (Kd.R_base ho0) hb); have n2_ := Aside0.mk (Kd.R_elder' (st HO_7.out) (Kd.R_base ho0) hb); have n3_ := Aside0.mk (Kd.R_elder' (st HO1347.out) (Kd.R_base ho0) hb); have n4_ := Aside0.mk (Kd.R_lower (Kd.R_new' (Kd.R_new' (Kd.R_new' (Kd.R_new' ho0 (Kd.R_lt (st HO_5.out))) (Kd.R_lt (st HO_6.out))) (Kd.R_lt (st HO_7.out))) (Kd.R_lt (st HO1347.out))) (below_size (bb HB.out))); have n5_ := Aside0.mk (below_step (bb HB.out) hb); clear HO_5; clear HO_6; clear HO_7; clear HO1347; clear HB; have HO_5 := n0_; have HO_6 := n1_; have HO_7 := n2_; have HO1347 := n3_; have HO1351 := n4_; have HB := n5_; clear n0_ n1_ n2_ n3_ n4_ n5_; (try clear hb); (try clear hb2); (try clear hk); (try clear hi); (try clear ho0); obtain ⟨Ao82, co82, eo82⟩ := Kd.R_slice HO_7.out; subst eo82; obtain ⟨Ao83, co83, eo83⟩ := Kd.R_slice HO1351.out; subst eo83) | (go_at_call 46; (with_reducible refine (gradineplain_Words.calls kj9 _ _ t1329 _ _ t1349 false _ ?side1 ?side2 ?side3 ?side4 A34.out).mono ?_); (case side1 => exact cs (Kd.R_reads' HO_7.out).2.2); (case side2 => exact (Kd.R_reads' HO_7.out).2.1); (case side3 => exact cs (Kd.R_reads' HO1351.out).2.2); (case side4 => exact (Kd.R_reads' HO1351.out).2.1); rintro e w' ⟨rfl, ⟨nd, rfl⟩⟩))
         go_ret
         exact ⟨by first | rfl | (simp [errW_none, errW_some] <;> rfl) | (simp [*, errW_none, errW_some] <;> rfl), by repeat (first | (with_reducible first | exact HB.out | apply below_alloc | apply pw_below_drewN | apply below_drew1) | exact HB.out)⟩
       ·replace c32 := Bool.eq_false_iff.mpr c32
        subst c32
        have H1 : (some false) = some r := by rw [if_neg (show ¬ (false = true) by decide)] at H; exact H
        clear H
        have H := H1
        clear H1
        obtain rfl := Option.some.inj H
        obtain ⟨Ao84, co84, eo84⟩ := Kd.R_slice HO_5.out
        subst eo84
        go_wp2_with (first | ((with_reducible refine gate_callee (f := 95) rfl ?_); refine goesL_ (some 45) rfl rfl Try.func95 (by kernel_rfl) rfl #[.slice A0 l0.length c0, .slice Ao84 t1325.length co84] rfl (by (try simp only [List.map_toArray, List.map_cons, List.map_nil]); first | done | rfl | (simp only [List.length_drop, List.length_take]; rfl) | (simp only [*]; done)) ?_; (with_reducible refine (gradineref05_Part.calls kj9 _ _ l0 _ _ t1325 t1345 _ ?side1 ?side2 ?side3 ?side4 A30.out).mono ?_); (case side1 => exact cs (Kd.C_below HR0.out HB.out)); (case side2 => exact HC0.out); (case side3 => exact cs (Kd.R_reads' HO_5.out).2.2); (case side4 => exact (Kd.R_reads' HO_5.out).2.1); rintro e w85 ⟨v1346, rfl, ho0, hb⟩; refine ⟨_, rfl, ?_⟩; have n0_ := Aside0.mk (Kd.R_elder' (st HO_5.out) (Kd.R_base ho0) hb); have n1_ := Aside0.mk (Kd.R_elder' (st HO_6.out) (Kd.R_base ho0) hb); have n2_ := Aside0.mk (Kd.R_elder' (st HO_7.out) (Kd.R_base ho0) hb); have n3_ := Aside0.mk (Kd.R_lower (Kd.R_new' (Kd.R_new' (Kd.R_new' ho0 (Kd.R_lt (st HO_5.out))) (Kd.R_lt (st HO_6.out))) (Kd.R_lt (st HO_7.out))) (below_size (bb HB.out))); have n4_ := Aside0.mk (below_step (bb HB.out) hb); clear HO_5; clear HO_6; clear HO_7; clear HB; have HO_5 := n0_; have HO_6 := n1_; have HO_7 := n2_; have HO1347 := n3_; have HB := n4_; clear n0_ n1_ n2_ n3_ n4_; (try clear hb); (try clear hb2); (try clear hk); (try clear hi); (try clear ho0); obtain ⟨Ao86, co86, eo86⟩ := Kd.R_slice HO_6.out; subst eo86; obtain ⟨Ao87, co87, eo87⟩ := Kd.R_slice HO1347.out; subst eo87) | ((with_reducible refine gate_callee (f := 46) rfl ?_); refine goesL_ (some 46) rfl rfl Try.func46 (by kernel_rfl) rfl #[.slice Ao86 t1328.length co86, .slice Ao87 t1345.length co87] rfl (by (try simp only [List.map_toArray, List.map_cons, List.map_nil]); first | done | rfl | (simp only [List.length_drop, List.length_take]; rfl) | (simp only [*]; done)) ?_; (with_reducible refine (gradineplain_Words.calls kj9 _ _ t1328 _ _ t1345 false _ ?side1 ?side2 ?side3 ?side4 A31.out).mono ?_); (case side1 => exact cs (Kd.R_reads' HO_6.out).2.2); (case side2 => exact (Kd.R_reads' HO_6.out).2.1); (case side3 => exact cs (Kd.R_reads' HO1347.out).2.2); (case side4 => exact (Kd.R_reads' HO1347.out).2.1); rintro e w' ⟨rfl, ⟨nd, rfl⟩⟩; refine ⟨_, rfl, ?_⟩))
        go_ret
        exact ⟨by first | rfl | (simp [errW_none, errW_some] <;> rfl) | (simp [*, errW_none, errW_some] <;> rfl), by repeat (first | (with_reducible first | exact HB.out | apply below_alloc | apply pw_below_drewN | apply below_drew1) | exact HB.out)⟩

def gradinelaw05_GcdTells.Pure : Prop := ∀ (l0 : List Int) (l1 : List Int), l0.length ≤ maxLen → l0.length * 8 ≤ 140737488351232 → (∀ x ∈ l0, (Lit.int .u64 x).wf = true) → l1.length ≤ maxLen → l1.length * 8 ≤ 140737488351232 → (∀ x ∈ l1, (Lit.int .u64 x).wf = true) → ∃ k, gradinelaw05_GcdTells.f k l0 l1 = some true
theorem gradinelaw05_GcdTells.walk (P : gradinelaw05_GcdTells.Pure) (a0 : Option Addr) (len0 cap0 : Nat) (z0 : List Int) (a1 : Option Addr) (len1 cap1 : Nat) (z1 : List Int) (w : World) (w0 : (a0 = none ∧ len0 = 0 ∧ cap0 = 0 ∧ z0 = []) ∨ ∃ x, a0 = some x ∧ len0 ≤ cap0 ∧ cap0 ≤ maxLen ∧ z0.length = cap0 ∧ (∀ i, i < z0.length → w.cell? (x.add i) = some (.int .u64 (z0.getD i 0))) ∧ ∀ n ∈ z0, (Lit.int .u64 n).wf = true) (y0 : len0 * 8 ≤ 140737488351232) (w1 : (a1 = none ∧ len1 = 0 ∧ cap1 = 0 ∧ z1 = []) ∨ ∃ x, a1 = some x ∧ len1 ≤ cap1 ∧ cap1 ≤ maxLen ∧ z1.length = cap1 ∧ (∀ i, i < z1.length → w.cell? (x.add i) = some (.int .u64 (z1.getD i 0))) ∧ ∀ n ∈ z1, (Lit.int .u64 n).wf = true) (y1 : len1 * 8 ≤ 140737488351232) :
  Calls Try.prog 22 #[.slice a0 len0 cap0, .slice a1 len1 cap1] w fun e w' => e = .returned (.bool true) ∧ Below w.heap.size w w' := by
 obtain ⟨l0, rfl, hr0, hm0, hw0, hc0⟩ := ReadsInt.ofRowC w0
 obtain ⟨l1, rfl, hr1, hm1, hw1, hc1⟩ := ReadsInt.ofRowC w1
 obtain ⟨k, h⟩ := P l0 l1 hm0 y0 hw0 hm1 y1 hw1
 refine (gradinelaw05_GcdTells.calls k _ _ l0 _ _ l1 true w (Kd.C_of_reads (d := (0 : Int)) (h1 := fun _ => rfl) hr0) hc0 (Kd.C_of_reads (d := (0 : Int)) (h1 := fun _ => rfl) hr1) hc1 h).mono ?_
 rintro e w' ⟨rfl, hd⟩
 exact ⟨rfl, hd⟩

end Go.Proofs.Ytldcgclbgbhffaa.P
