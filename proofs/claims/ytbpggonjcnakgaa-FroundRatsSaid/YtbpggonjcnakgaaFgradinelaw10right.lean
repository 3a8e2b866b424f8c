/- Functions of the seat as Lean functions, and walks: written by a program for this claim. -/
import Derived.Test.YtbpggonjcnakgaaFbase
import Derived.Test.YtbpggonjcnakgaaBgradineplain
import Derived.Test.YtbpggonjcnakgaaBgradineref07
namespace Go.Proofs.Ytbpggonjcnakgaa.P
open Go.RowKit Go.Proofs.YtbpggonjcnakgaaW.PrintWords Go.Proofs.YtbpggonjcnakgaaW.PrintLast Go.Proofs.YtbpggonjcnakgaaW.PrintMore
attribute [local go_sem] max2_int min2_int max_two min_two max_three min_three max_four min_four   -- for this text's walks alone
set_option linter.unusedVariables false
set_option linter.unusedSimpArgs false

def gradinelaw10_right.f (k : Nat) (a0_0 : Bool) (l0_1 : List Int) (l0_2 : List Int) : Option (Bool) := (gradineplain_Long.f a0_0 l0_1 l0_2 20).bind fun t1320 => (if t1320 = true then (some false) else ((gradineref07_Right.f k a0_0 l0_1 l0_2).bind fun t1321 => (some t1321)))
set_option maxHeartbeats 8000000 in
set_option maxRecDepth 100000 in
theorem gradinelaw10_right.calls (k : Nat) (a0_0 : Bool) (A0_1 : Option Addr) (c0_1 : Nat) (l0_1 : List Int) (A0_2 : Option Addr) (c0_2 : Nat) (l0_2 : List Int) (r : Bool) (w : World) (hr0_1 : Kd.C (Kd.int .u64) w A0_1 l0_1.length l0_1) (hc0_1 : l0_1.length ≤ c0_1) (hr0_2 : Kd.C (Kd.int .u64) w A0_2 l0_2.length l0_2) (hc0_2 : l0_2.length ≤ c0_2) (h : gradinelaw10_right.f k a0_0 l0_1 l0_2 = some r) :
  Calls Try.prog 79 #[.agg #[.bool a0_0, .slice A0_1 l0_1.length c0_1, .slice A0_2 l0_2.length c0_2]] w fun e w' => e = .returned (.bool r) ∧ Below w.heap.size w w' := by
 have hu32 := Try.underlying32
 have HR0_1 := Aside0.mk hr0_1
 have HC0_1 := Aside0.mk hc0_1
 clear hr0_1 hc0_1
 have HR0_2 := Aside0.mk hr0_2
 have HC0_2 := Aside0.mk hc0_2
 clear hr0_2 hc0_2
 have HB := Aside0.mk (Below.refl w.heap.size w)
 have H := h
 clear h
 unfold gradinelaw10_right.f at H
 obtain ⟨t1320, A2, H⟩ := bnd H
 refine if c3 : t1320 = true then ?p96_ else ?n96_
 case' p96_ =>
  subst c3
  replace H := ift H
  obtain rfl := Option.some.inj H
 case' n96_ =>
  replace c3 := Bool.eq_false_iff.mpr c3
  subst c3
  replace H := iff_ H
  obtain ⟨t1321, A7, H⟩ := bnd H
  obtain rfl := Option.some.inj H
 case p96_ | n96_ =>
  go_enter Try.func79, Try.ntmps79
  go_wp2_with (first | ((with_reducible refine gate_dst (N := 1) rfl ?_); refine box_event ?hg (N := 1) ?hd (cs := #[.bool a0_0, .slice A0_1 l0_1.length c0_1, .slice A0_2 l0_2.length c0_2]) (t := 32) ?hr ?_; (case hd => rfl); (case hg => rfl); (case hr => first | (go_simp; done) | (go_simp; rfl)); intro gb1319 hg w8 hbox hb; refine sw4 ⟨below_step (bb HB.out) hb⟩ ⟨hbox⟩ ⟨(by rw [hg]; exact (below_size (bb HB.out)) : w.heap.size ≤ gb1319)⟩ ⟨(by rw [hg]; exact (below_size (bb HB.out)) : w.heap.size ≤ gb1319)⟩ ?_; clear HB; intro HB BK1319 GW1319 GE1319; clear hb hbox hg; obtain ⟨hcz9_0, hcz9_1, hcz9_2, hfz9_0, hfz9_1, hfz9_2⟩ := cz3 BK1319) | ((with_reducible refine gate_callee (f := 130) rfl ?_); refine goesL_ (some 4) rfl rfl Try.func130 (by kernel_rfl) rfl #[.agg #[.bool a0_0, .slice A0_1 l0_1.length c0_1, .slice A0_2 l0_2.length c0_2], .int .i64 20] rfl lx ?_; (with_reducible refine (gradineplain_Long.calls a0_0 _ _ l0_1 _ _ l0_2 20 _ _ ?side1 ?side2 ?side3 ?side4 A2.out).mono ?_); (case side1 => exact cs (Kd.C_below HR0_1.out HB.out)); (case side2 => exact HC0_1.out); (case side3 => exact cs (Kd.C_below HR0_2.out HB.out)); (case side4 => exact HC0_2.out); rintro e w10 ⟨rfl, hb⟩; refine ⟨_, rfl, ?_⟩; refine sw2 ⟨blk_below (bk BK1319.out) hb⟩ ⟨below_step hbb hb⟩ ?_; clear BK1319 HB; intro BK1319 HB; obtain ⟨hcz11_0, hcz11_1, hcz11_2, hfz11_0, hfz11_1, hfz11_2⟩ := cz3 BK1319) | (go_at_call 131; (with_reducible refine (gradineref07_Right.calls k a0_0 _ _ l0_1 _ _ l0_2 t1321 _ ?side1 ?side2 ?side3 ?side4 A7.out).mono ?_); (case side1 => exact cs (Kd.C_below HR0_1.out HB.out)); (case side2 => exact HC0_1.out); (case side3 => exact cs (Kd.C_below HR0_2.out HB.out)); (case side4 => exact HC0_2.out); rintro e w12 ⟨rfl, hb⟩; refine sw2 ⟨blk_below (bk BK1319.out) hb⟩ ⟨below_step hbb hb⟩ ?_; clear BK1319 HB; intro BK1319 HB))
  go_ret
  exact ⟨er, hbb⟩

end Go.Proofs.Ytbpggonjcnakgaa.P
