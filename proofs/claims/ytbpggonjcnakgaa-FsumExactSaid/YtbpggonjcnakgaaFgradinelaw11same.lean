/- Functions of the seat as Lean functions, and walks: written by a program for this claim. -/
import Derived.Test.YtbpggonjcnakgaaFbase
import Derived.Test.YtbpggonjcnakgaaBfsum
namespace Go.Proofs.Ytbpggonjcnakgaa.P
open Go.RowKit Go.Proofs.YtbpggonjcnakgaaW.PrintWords Go.Proofs.YtbpggonjcnakgaaW.PrintLast Go.Proofs.YtbpggonjcnakgaaW.PrintMore
attribute [local go_sem] max2_int min2_int max_two min_two max_three min_three max_four min_four   -- for this text's walks alone
set_option linter.unusedVariables false
set_option linter.unusedSimpArgs false

def gradinelaw11_same.f (k : Nat)  : Option (Bool) := (fsum_Add.f k 4607182418800017408 4368491638549381120).bind fun t803 => (if t803 = 4607182418800017408 then ((fsum_Sub.f k 4607182418800017408 4607182418800017408).bind fun t804 => (if t804 = 0 then ((fsum_Sub.f k 9218868437227405312 9218868437227405312).bind fun t805 => (some (t805 == 9221120237041090560))) else (some false))) else (some false))
set_option maxHeartbeats 8000000 in
set_option maxRecDepth 100000 in
theorem gradinelaw11_same.calls (k : Nat)  (r : Bool) (w : World) (h : gradinelaw11_same.f k  = some r) :
  Calls Try.prog 59 #[] w fun e w' => e = .returned (.bool r) ∧ Below w.heap.size w w' := by
 have HB := Aside0.mk (Below.refl w.heap.size w)
 have H : ((fsum_Add.f k 4607182418800017408 4368491638549381120).bind fun t803 => (if t803 = 4607182418800017408 then ((fsum_Sub.f k 4607182418800017408 4607182418800017408).bind fun t804 => (if t804 = 0 then ((fsum_Sub.f k 9218868437227405312 9218868437227405312).bind fun t805 => (some (t805 == 9221120237041090560))) else (some false))) else (some false))) = some r := h
 clear h
 replace H := Option.bind_eq_some_iff.mp H
 obtain ⟨t803, A10, H⟩ := H
 replace H : (if t803 = 4607182418800017408 then ((fsum_Sub.f k 4607182418800017408 4607182418800017408).bind fun t804 => (if t804 = 0 then ((fsum_Sub.f k 9218868437227405312 9218868437227405312).bind fun t805 => (some (t805 == 9221120237041090560))) else (some false))) else (some false)) = some r := H
 have A1 := Aside0.mk A10
 clear A10
 by_cases c2 : t803 = 4607182418800017408
 ·rw [if_pos c2] at H
  have c2b0 : (t803 == 4607182418800017408) = true := beq_iff_eq.mpr c2
  have c2b1 : (t803 != 4607182418800017408) = false := bne_eq_false_iff_eq.mpr c2
  clear c2
  replace H := Option.bind_eq_some_iff.mp H
  obtain ⟨t804, A30, H⟩ := H
  replace H : (if t804 = 0 then ((fsum_Sub.f k 9218868437227405312 9218868437227405312).bind fun t805 => (some (t805 == 9221120237041090560))) else (some false)) = some r := H
  have A3 := Aside0.mk A30
  clear A30
  by_cases c4 : t804 = 0
  ·rw [if_pos c4] at H
   have c4b0 : (t804 == 0) = true := beq_iff_eq.mpr c4
   have c4b1 : (t804 != 0) = false := bne_eq_false_iff_eq.mpr c4
   clear c4
   replace H := Option.bind_eq_some_iff.mp H
   obtain ⟨t805, A50, H⟩ := H
   replace H : (some (t805 == 9221120237041090560)) = some r := H
   have A5 := Aside0.mk A50
   clear A50
   obtain rfl := Option.some.inj H
   go_enter Try.func59, Try.ntmps59
   go_wp2_with (first | ((with_reducible refine gate_callee (f := 55) rfl ?_); refine goesL_ (some 1) rfl rfl Try.func55 (by kernel_rfl) rfl #[.int .u64 4607182418800017408, .int .u64 4368491638549381120] rfl (by (try simp only [List.map_toArray, List.map_cons, List.map_nil]); first | done | rfl | (simp only [List.length_drop, List.length_take]; rfl) | (simp only [*]; done)) ?_; (with_reducible refine (fsum_Add.calls k 4607182418800017408 4368491638549381120 t803 _ A1.out).mono ?_); rintro e w6 ⟨rfl, hb⟩; refine ⟨_, rfl, ?_⟩; have n0_ := Aside0.mk (below_step (bb HB.out) hb); clear HB; have HB := n0_; clear n0_; (try clear hb); (try clear hb2); (try clear hk); (try clear hi)) | (go_at_call 57; (with_reducible refine (fsum_Sub.calls k 4607182418800017408 4607182418800017408 t804 _ A3.out).mono ?_); rintro e w7 ⟨rfl, hb⟩; have n0_ := Aside0.mk (below_step (bb HB.out) hb); clear HB; have HB := n0_; clear n0_; (try clear hb); (try clear hb2); (try clear hk); (try clear hi)) | (go_at_call 57; (with_reducible refine (fsum_Sub.calls k 9218868437227405312 9218868437227405312 t805 _ A5.out).mono ?_); rintro e w8 ⟨rfl, hb⟩; have n0_ := Aside0.mk (below_step (bb HB.out) hb); clear HB; have HB := n0_; clear n0_; (try clear hb); (try clear hb2); (try clear hk); (try clear hi)))
   go_ret
   exact ⟨by first | rfl | (simp [errW_none, errW_some] <;> rfl) | (simp [*, errW_none, errW_some] <;> rfl), by repeat (first | (with_reducible first | exact HB.out | apply below_alloc | apply pw_below_drewN | apply below_drew1) | exact HB.out)⟩
  ·rw [if_neg c4] at H
   have c4b0 : (t804 == 0) = false := beq_eq_false_iff_ne.mpr c4
   have c4b1 : (t804 != 0) = true := bne_iff_ne.mpr c4
   obtain rfl := Option.some.inj H
   go_enter Try.func59, Try.ntmps59
   go_wp2_with (first | ((with_reducible refine gate_callee (f := 55) rfl ?_); refine goesL_ (some 1) rfl rfl Try.func55 (by kernel_rfl) rfl #[.int .u64 4607182418800017408, .int .u64 4368491638549381120] rfl (by (try simp only [List.map_toArray, List.map_cons, List.map_nil]); first | done | rfl | (simp only [List.length_drop, List.length_take]; rfl) | (simp only [*]; done)) ?_; (with_reducible refine (fsum_Add.calls k 4607182418800017408 4368491638549381120 t803 _ A1.out).mono ?_); rintro e w9 ⟨rfl, hb⟩; refine ⟨_, rfl, ?_⟩; have n0_ := Aside0.mk (below_step (bb HB.out) hb); clear HB; have HB := n0_; clear n0_; (try clear hb); (try clear hb2); (try clear hk); (try clear hi)) | (go_at_call 57; (with_reducible refine (fsum_Sub.calls k 4607182418800017408 4607182418800017408 t804 _ A3.out).mono ?_); rintro e w10 ⟨rfl, hb⟩; have n0_ := Aside0.mk (below_step (bb HB.out) hb); clear HB; have HB := n0_; clear n0_; (try clear hb); (try clear hb2); (try clear hk); (try clear hi)))
   go_ret
   exact ⟨by first | rfl | (simp [errW_none, errW_some] <;> rfl) | (simp [*, errW_none, errW_some] <;> rfl), by repeat (first | (with_reducible first | exact HB.out | apply below_alloc | apply pw_below_drewN | apply below_drew1) | exact HB.out)⟩
 ·rw [if_neg c2] at H
  have c2b0 : (t803 == 4607182418800017408) = false := beq_eq_false_iff_ne.mpr c2
  have c2b1 : (t803 != 4607182418800017408) = true := bne_iff_ne.mpr c2
  obtain rfl := Option.some.inj H
  go_enter Try.func59, Try.ntmps59
  go_wp2_with (first | ((with_reducible refine gate_callee (f := 55) rfl ?_); refine goesL_ (some 1) rfl rfl Try.func55 (by kernel_rfl) rfl #[.int .u64 4607182418800017408, .int .u64 4368491638549381120] rfl (by (try simp only [List.map_toArray, List.map_cons, List.map_nil]); first | done | rfl | (simp only [List.length_drop, List.length_take]; rfl) | (simp only [*]; done)) ?_; (with_reducible refine (fsum_Add.calls k 4607182418800017408 4368491638549381120 t803 _ A1.out).mono ?_); rintro e w11 ⟨rfl, hb⟩; refine ⟨_, rfl, ?_⟩; have n0_ := Aside0.mk (below_step (bb HB.out) hb); clear HB; have HB := n0_; clear n0_; (try clear hb); (try clear hb2); (try clear hk); (try clear hi)))
  go_ret
  exact ⟨by first | rfl | (simp [errW_none, errW_some] <;> rfl) | (simp [*, errW_none, errW_some] <;> rfl), by repeat (first | (with_reducible first | exact HB.out | apply below_alloc | apply pw_below_drewN | apply below_drew1) | exact HB.out)⟩

end Go.Proofs.Ytbpggonjcnakgaa.P
