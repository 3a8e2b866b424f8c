/- Functions of the seat as Lean functions, and walks: written by a program for this claim. -/
import Derived.Test.YtbpggonjcnakgaaFbase
import Derived.Test.YtbpggonjcnakgaaBgradineref09
import Derived.Test.YtbpggonjcnakgaaBgradineref07
import Derived.Test.YtbpggonjcnakgaaBgradineref10
import Derived.Test.YtbpggonjcnakgaaBfsum
import Derived.Test.YtbpggonjcnakgaaFgradinelaw11same
namespace Go.Proofs.Ytbpggonjcnakgaa.P
open Go.RowKit Go.Proofs.YtbpggonjcnakgaaW.PrintWords Go.Proofs.YtbpggonjcnakgaaW.PrintLast Go.Proofs.YtbpggonjcnakgaaW.PrintMore
attribute [local go_sem] max2_int min2_int max_two min_two max_three min_three max_four min_four   -- for this text's walks alone
set_option linter.unusedVariables false
set_option linter.unusedSimpArgs false

mutual
def gradinelaw11_FsumExact.j0 : Nat → Int → Int → Bool → Option (Bool)
 | 0, _, _, _ => none
 | k + 1, x0, x1, x23 => if x23 = true then ((gradinelaw11_same.f k).bind fun t831 => (some t831)) else ((gradineref10_ToRat.f k x0).bind fun bt832 => ((gradineref10_ToRat.f k x1).bind fun bt839 => ((gradineref07_Add.f k bt839.1 bt839.2.1 bt839.2.2 bt839.1 bt839.2.1 bt839.2.2).bind fun bt848 => ((gradineref07_Cmp.f k bt832.1 bt832.2.1 bt832.2.2 bt848.1 bt848.2.1 bt848.2.2).bind fun t855 => (if t855 > 0 then (gradinelaw11_FsumExact.j1 k x0 x1 true bt832.1 bt832.2.1 bt832.2.2 bt839.1 bt839.2.1 bt839.2.2) else ((gradineref07_Add.f k bt832.1 bt832.2.1 bt832.2.2 bt832.1 bt832.2.1 bt832.2.2).bind fun bt856 => ((gradineref07_Cmp.f k bt839.1 bt839.2.1 bt839.2.2 bt856.1 bt856.2.1 bt856.2.2).bind fun t863 => (gradinelaw11_FsumExact.j1 k x0 x1 (decide (t863 > 0)) bt832.1 bt832.2.1 bt832.2.2 bt839.1 bt839.2.1 bt839.2.2))))))))
def gradinelaw11_FsumExact.j1 : Nat → Int → Int → Bool → Bool → List Int → List Int → Bool → List Int → List Int → Option (Bool)
 | 0, _, _, _, _, _, _, _, _, _ => none
 | k + 1, x0, x1, x42, x847000, x847001, x847002, x848000, x848001, x848002 => if x42 = true then ((gradinelaw11_same.f k).bind fun t864 => (some t864)) else ((fsum_Sub.f k x0 x1).bind fun t865 => ((gradineref09_Finite.f t865).bind fun t866 => (if t866 = true then ((gradineref10_ToRat.f k t865).bind fun bt867 => ((gradineref07_Sub.f k x847000 x847001 x847002 x848000 x848001 x848002).bind fun bt874 => ((gradineref07_Same.f k bt867.1 bt867.2.1 bt867.2.2 bt874.1 bt874.2.1 bt874.2.2).bind fun t881 => (if t881 = true then ((gradinelaw11_same.f k).bind fun t882 => (some t882)) else (some false))))) else (some false))))
end
def gradinelaw11_FsumExact.f (k : Nat) (a0 : Int) (a1 : Int) : Option (Bool) := (gradineref09_Finite.f a0).bind fun t827 => (if t827 = true then ((gradineref09_Finite.f a1).bind fun t828 => (if t828 = true then ((gradineref09_Neg.f a0).bind fun t829 => (if t829 = true then (gradinelaw11_FsumExact.j0 k a0 a1 true) else ((gradineref09_Neg.f a1).bind fun t830 => (gradinelaw11_FsumExact.j0 k a0 a1 t830)))) else (gradinelaw11_FsumExact.j0 k a0 a1 true))) else (gradinelaw11_FsumExact.j0 k a0 a1 true))
def gradinelaw11_FsumExact.T4 : Bool × List (List Nat × List Nat) := (true, [([], []), ([], []), ([], []), ([1, 2], [1, 2]), ([0, 3, 3], [0, 3]), ([4], [4]), ([5, 4], [5]), ([6], [6]), ([6], [6]), ([6], [6]), ([8, 9, 6, 6], [6, 8, 9]), ([7, 10, 10, 6], [6, 7, 10]), ([11, 6], [6, 11]), ([6, 12], [6, 12])])
def gradinelaw11_FsumExact.B4 : List Nat := [0, 0, 0, 6, 15, 31, 63, 127, 127, 127, 895, 2047, 4095, 8191]
theorem gradinelaw11_FsumExact.tab4 : rtab .any (opsOf Try.f13 4) = gradinelaw11_FsumExact.T4 := by kernel_rfl
theorem gradinelaw11_FsumExact.bits4 : waitsOk gradinelaw11_FsumExact.T4.2 gradinelaw11_FsumExact.B4 = true := by kernel_rfl
def gradinelaw11_FsumExact.T7 : Bool × List (List Nat × List Nat) := (true, [([], []), ([0], [0]), ([1, 1], [1]), ([2], [2]), ([3, 2, 2], [2, 3]), ([2], [2]), ([2], [2]), ([5, 6, 4, 2], [2, 5, 6]), ([4, 7, 7, 2], [2, 4, 7]), ([2, 8], [2, 8]), ([9, 8], [9]), ([10, 10], [10]), ([10, 11], [10, 11]), ([12, 11, 0, 1, 2, 3, 4, 5, 6, 7, 8, 9, 10, 11, 12], [12])])
def gradinelaw11_FsumExact.B7 : List Nat := [0, 1, 3, 7, 15, 7, 7, 127, 255, 511, 1023, 2047, 4095, 8191]
theorem gradinelaw11_FsumExact.tab7 : rtab .any (opsOf Try.f13 7) = gradinelaw11_FsumExact.T7 := by kernel_rfl
theorem gradinelaw11_FsumExact.bits7 : waitsOk gradinelaw11_FsumExact.T7.2 gradinelaw11_FsumExact.B7 = true := by kernel_rfl
set_option maxHeartbeats 8000000 in
set_option maxRecDepth 100000 in
theorem gradinelaw11_FsumExact.calls (k : Nat) (a0 : Int) (a1 : Int) (r : Bool) (w : World) (h : gradinelaw11_FsumExact.f k a0 a1 = some r) :
  Calls Try.prog 13 #[.int .u64 a0, .int .u64 a1] w fun e w' => e = .returned (.bool r) ∧ Below w.heap.size w w' := by
 have hu32 := Try.underlying32
 have HB := Aside0.mk (Below.refl w.heap.size w)
 have H : ((gradineref09_Finite.f a0).bind fun t827 => (if t827 = true then ((gradineref09_Finite.f a1).bind fun t828 => (if t828 = true then ((gradineref09_Neg.f a0).bind fun t829 => (if t829 = true then (gradinelaw11_FsumExact.j0 k a0 a1 true) else ((gradineref09_Neg.f a1).bind fun t830 => (gradinelaw11_FsumExact.j0 k a0 a1 t830)))) else (gradinelaw11_FsumExact.j0 k a0 a1 true))) else (gradinelaw11_FsumExact.j0 k a0 a1 true))) = some r := h
 clear h
 have HC3 := Aside0.mk H
 clear H
 go_enter Try.func13, Try.ntmps13
 go_upto_region 1 with (fail)
 go_cut [23] (fun v23 wc => ∃ (kq : Nat) (x23_2 : Bool), v23 = .bool x23_2 ∧ Aside0 (gradinelaw11_FsumExact.j0 kq a0 a1 x23_2 = some r) ∧ Aside0 (kq ≤ k) ∧ Aside0 (Below w.heap.size w wc))
 case first =>
  have H := HC3.out
  clear HC3
  replace H := Option.bind_eq_some_iff.mp H
  obtain ⟨t827, A40, H⟩ := H
  replace H : (if t827 = true then ((gradineref09_Finite.f a1).bind fun t828 => (if t828 = true then ((gradineref09_Neg.f a0).bind fun t829 => (if t829 = true then (gradinelaw11_FsumExact.j0 k a0 a1 true) else ((gradineref09_Neg.f a1).bind fun t830 => (gradinelaw11_FsumExact.j0 k a0 a1 t830)))) else (gradinelaw11_FsumExact.j0 k a0 a1 true))) else (gradinelaw11_FsumExact.j0 k a0 a1 true)) = some r := H
  have A4 := Aside0.mk A40
  clear A40
  by_cases c5 : t827 = true
  ·subst c5
   have H1 : ((gradineref09_Finite.f a1).bind fun t828 => (if t828 = true then ((gradineref09_Neg.f a0).bind fun t829 => (if t829 = true then (gradinelaw11_FsumExact.j0 k a0 a1 true) else ((gradineref09_Neg.f a1).bind fun t830 => (gradinelaw11_FsumExact.j0 k a0 a1 t830)))) else (gradinelaw11_FsumExact.j0 k a0 a1 true))) = some r := by rw [if_pos rfl] at H; exact H
   clear H
   have H := H1
   clear H1
   replace H := Option.bind_eq_some_iff.mp H
   obtain ⟨t828, A60, H⟩ := H
   replace H : (if t828 = true then ((gradineref09_Neg.f a0).bind fun t829 => (if t829 = true then (gradinelaw11_FsumExact.j0 k a0 a1 true) else ((gradineref09_Neg.f a1).bind fun t830 => (gradinelaw11_FsumExact.j0 k a0 a1 t830)))) else (gradinelaw11_FsumExact.j0 k a0 a1 true)) = some r := H
   have A6 := Aside0.mk A60
   clear A60
   by_cases c7 : t828 = true
   ·subst c7
    have H1 : ((gradineref09_Neg.f a0).bind fun t829 => (if t829 = true then (gradinelaw11_FsumExact.j0 k a0 a1 true) else ((gradineref09_Neg.f a1).bind fun t830 => (gradinelaw11_FsumExact.j0 k a0 a1 t830)))) = some r := by rw [if_pos rfl] at H; exact H
    clear H
    have H := H1
    clear H1
    replace H := Option.bind_eq_some_iff.mp H
    obtain ⟨t829, A80, H⟩ := H
    replace H : (if t829 = true then (gradinelaw11_FsumExact.j0 k a0 a1 true) else ((gradineref09_Neg.f a1).bind fun t830 => (gradinelaw11_FsumExact.j0 k a0 a1 t830))) = some r := H
    have A8 := Aside0.mk A80
    clear A80
    by_cases c9 : t829 = true
    ·subst c9
     have H1 : (gradinelaw11_FsumExact.j0 k a0 a1 true) = some r := by rw [if_pos rfl] at H; exact H
     clear H
     have H := H1
     clear H1
     have H' := Aside0.mk H
     clear H
     go_wp2_with (first | ((with_reducible refine gate_callee (f := 26) rfl ?_); refine goesL_ (some 9) rfl rfl Try.func26 (by kernel_rfl) rfl #[.int .u64 a0] rfl (by (try simp only [List.map_toArray, List.map_cons, List.map_nil]); first | done | rfl | (simp only [List.length_drop, List.length_take]; rfl) | (simp only [*]; done)) ?_; (with_reducible refine (gradineref09_Finite.calls a0 true _ A4.out).mono ?_); rintro e w' ⟨rfl, ⟨nd, rfl⟩⟩; refine ⟨_, rfl, ?_⟩) | (go_at_call 26; (with_reducible refine (gradineref09_Finite.calls a1 true _ A6.out).mono ?_); rintro e w' ⟨rfl, ⟨nd, rfl⟩⟩) | (go_at_call 27; (with_reducible refine (gradineref09_Neg.calls a0 true _ A8.out).mono ?_); rintro e w' ⟨rfl, ⟨nd, rfl⟩⟩))
     go_meet
     case rel => exact ⟨_, (true), (by first | rfl | (simp; done) | (simp [*]; done)), H', ⟨by first | omega | exact Nat.le_refl _⟩, ⟨bb HB.out⟩⟩
    ·replace c9 := Bool.eq_false_iff.mpr c9
     subst c9
     have H1 : ((gradineref09_Neg.f a1).bind fun t830 => (gradinelaw11_FsumExact.j0 k a0 a1 t830)) = some r := by rw [if_neg (show ¬ (false = true) by decide)] at H; exact H
     clear H
     have H := H1
     clear H1
     replace H := Option.bind_eq_some_iff.mp H
     obtain ⟨t830, A100, H⟩ := H
     replace H : (gradinelaw11_FsumExact.j0 k a0 a1 t830) = some r := H
     have A10 := Aside0.mk A100
     clear A100
     have H' := Aside0.mk H
     clear H
     go_wp2_with (first | ((with_reducible refine gate_callee (f := 26) rfl ?_); refine goesL_ (some 9) rfl rfl Try.func26 (by kernel_rfl) rfl #[.int .u64 a0] rfl (by (try simp only [List.map_toArray, List.map_cons, List.map_nil]); first | done | rfl | (simp only [List.length_drop, List.length_take]; rfl) | (simp only [*]; done)) ?_; (with_reducible refine (gradineref09_Finite.calls a0 true _ A4.out).mono ?_); rintro e w' ⟨rfl, ⟨nd, rfl⟩⟩; refine ⟨_, rfl, ?_⟩) | (go_at_call 26; (with_reducible refine (gradineref09_Finite.calls a1 true _ A6.out).mono ?_); rintro e w' ⟨rfl, ⟨nd, rfl⟩⟩) | (go_at_call 27; (with_reducible refine (gradineref09_Neg.calls a0 false _ A8.out).mono ?_); rintro e w' ⟨rfl, ⟨nd, rfl⟩⟩) | (go_at_call 27; (with_reducible refine (gradineref09_Neg.calls a1 t830 _ A10.out).mono ?_); rintro e w' ⟨rfl, ⟨nd, rfl⟩⟩))
     go_meet
     case rel => exact ⟨_, (t830), (by first | rfl | (simp; done) | (simp [*]; done)), H', ⟨by first | omega | exact Nat.le_refl _⟩, ⟨bb HB.out⟩⟩
   ·replace c7 := Bool.eq_false_iff.mpr c7
    subst c7
    have H1 : (gradinelaw11_FsumExact.j0 k a0 a1 true) = some r := by rw [if_neg (show ¬ (false = true) by decide)] at H; exact H
    clear H
    have H := H1
    clear H1
    have H' := Aside0.mk H
    clear H
    go_wp2_with (first | ((with_reducible refine gate_callee (f := 26) rfl ?_); refine goesL_ (some 9) rfl rfl Try.func26 (by kernel_rfl) rfl #[.int .u64 a0] rfl (by (try simp only [List.map_toArray, List.map_cons, List.map_nil]); first | done | rfl | (simp only [List.length_drop, List.length_take]; rfl) | (simp only [*]; done)) ?_; (with_reducible refine (gradineref09_Finite.calls a0 true _ A4.out).mono ?_); rintro e w' ⟨rfl, ⟨nd, rfl⟩⟩; refine ⟨_, rfl, ?_⟩) | (go_at_call 26; (with_reducible refine (gradineref09_Finite.calls a1 false _ A6.out).mono ?_); rintro e w' ⟨rfl, ⟨nd, rfl⟩⟩))
    go_meet
    case rel => exact ⟨_, (true), (by first | rfl | (simp; done) | (simp [*]; done)), H', ⟨by first | omega | exact Nat.le_refl _⟩, ⟨bb HB.out⟩⟩
  ·replace c5 := Bool.eq_false_iff.mpr c5
   subst c5
   have H1 : (gradinelaw11_FsumExact.j0 k a0 a1 true) = some r := by rw [if_neg (show ¬ (false = true) by decide)] at H; exact H
   clear H
   have H := H1
   clear H1
   have H' := Aside0.mk H
   clear H
   go_wp2_with (first | ((with_reducible refine gate_callee (f := 26) rfl ?_); refine goesL_ (some 9) rfl rfl Try.func26 (by kernel_rfl) rfl #[.int .u64 a0] rfl (by (try simp only [List.map_toArray, List.map_cons, List.map_nil]); first | done | rfl | (simp only [List.length_drop, List.length_take]; rfl) | (simp only [*]; done)) ?_; (with_reducible refine (gradineref09_Finite.calls a0 false _ A4.out).mono ?_); rintro e w' ⟨rfl, ⟨nd, rfl⟩⟩; refine ⟨_, rfl, ?_⟩))
   go_meet
   case rel => exact ⟨_, (true), (by first | rfl | (simp; done) | (simp [*]; done)), H', ⟨by first | omega | exact Nat.le_refl _⟩, ⟨bb HB.out⟩⟩
 case rest =>
  clear HC3
  try clear c1
  try clear c2
  try clear p2
  try clear c5
  try clear c7
  try clear c9
  obtain ⟨kq, x23_2, rfl, HA, HJ2, HB⟩ := hcut
  cases kq with
  | zero => exact absurd HA.out (by simp [gradinelaw11_FsumExact.j0])
  | succ kj2 =>
   have H := HA.out
   clear HA
   simp only [gradinelaw11_FsumExact.j0] at H
   by_cases c11 : x23_2 = true
   ·subst c11
    have H1 : ((gradinelaw11_same.f kj2).bind fun t831 => (some t831)) = some r := by rw [if_pos rfl] at H; exact H
    clear H
    have H := H1
    clear H1
    replace H := Option.bind_eq_some_iff.mp H
    obtain ⟨t831, A120, H⟩ := H
    replace H : (some t831) = some r := H
    have A12 := Aside0.mk A120
    clear A120
    obtain rfl := Option.some.inj H
    go_wp2_with (first | ((with_reducible refine gate_callee (f := 59) rfl ?_); refine goesL_ (some 24) rfl rfl Try.func59 (by kernel_rfl) rfl #[] rfl (by (try simp only [List.map_toArray, List.map_cons, List.map_nil]); first | done | rfl | (simp only [List.length_drop, List.length_take]; rfl) | (simp only [*]; done)) ?_; (with_reducible refine (gradinelaw11_same.calls kj2  t831 _ A12.out).mono ?_); rintro e w13 ⟨rfl, hb⟩; refine ⟨_, rfl, ?_⟩; have n0_ := Aside0.mk (below_step (bb HB.out) hb); clear HB; have HB := n0_; clear n0_; (try clear hb); (try clear hb2); (try clear hk); (try clear hi)))
    go_ret
    exact ⟨by first | rfl | (simp [errW_none, errW_some] <;> rfl) | (simp [*, errW_none, errW_some] <;> rfl), by repeat (first | (with_reducible first | exact HB.out | apply below_alloc | apply pw_below_drewN | apply below_drew1) | exact HB.out)⟩
   ·replace c11 := Bool.eq_false_iff.mpr c11
    subst c11
    have H1 : ((gradineref10_ToRat.f kj2 a0).bind fun bt832 => ((gradineref10_ToRat.f kj2 a1).bind fun bt839 => ((gradineref07_Add.f kj2 bt839.1 bt839.2.1 bt839.2.2 bt839.1 bt839.2.1 bt839.2.2).bind fun bt848 => ((gradineref07_Cmp.f kj2 bt832.1 bt832.2.1 bt832.2.2 bt848.1 bt848.2.1 bt848.2.2).bind fun t855 => (if t855 > 0 then (gradinelaw11_FsumExact.j1 kj2 a0 a1 true bt832.1 bt832.2.1 bt832.2.2 bt839.1 bt839.2.1 bt839.2.2) else ((gradineref07_Add.f kj2 bt832.1 bt832.2.1 bt832.2.2 bt832.1 bt832.2.1 bt832.2.2).bind fun bt856 => ((gradineref07_Cmp.f kj2 bt839.1 bt839.2.1 bt839.2.2 bt856.1 bt856.2.1 bt856.2.2).bind fun t863 => (gradinelaw11_FsumExact.j1 kj2 a0 a1 (decide (t863 > 0)) bt832.1 bt832.2.1 bt832.2.2 bt839.1 bt839.2.1 bt839.2.2)))))))) = some r := by rw [if_neg (show ¬ (false = true) by decide)] at H; exact H
    clear H
    have H := H1
    clear H1
    replace H := Option.bind_eq_some_iff.mp H
    obtain ⟨⟨t832, t833, t836⟩, A140, H⟩ := H
    replace H : ((gradineref10_ToRat.f kj2 a1).bind fun bt839 => ((gradineref07_Add.f kj2 bt839.1 bt839.2.1 bt839.2.2 bt839.1 bt839.2.1 bt839.2.2).bind fun bt848 => ((gradineref07_Cmp.f kj2 t832 t833 t836 bt848.1 bt848.2.1 bt848.2.2).bind fun t855 => (if t855 > 0 then (gradinelaw11_FsumExact.j1 kj2 a0 a1 true t832 t833 t836 bt839.1 bt839.2.1 bt839.2.2) else ((gradineref07_Add.f kj2 t832 t833 t836 t832 t833 t836).bind fun bt856 => ((gradineref07_Cmp.f kj2 bt839.1 bt839.2.1 bt839.2.2 bt856.1 bt856.2.1 bt856.2.2).bind fun t863 => (gradinelaw11_FsumExact.j1 kj2 a0 a1 (decide (t863 > 0)) t832 t833 t836 bt839.1 bt839.2.1 bt839.2.2))))))) = some r := H
    have A14 := Aside0.mk A140
    clear A140
    replace H := Option.bind_eq_some_iff.mp H
    obtain ⟨⟨t839, t840, t843⟩, A150, H⟩ := H
    replace H : ((gradineref07_Add.f kj2 t839 t840 t843 t839 t840 t843).bind fun bt848 => ((gradineref07_Cmp.f kj2 t832 t833 t836 bt848.1 bt848.2.1 bt848.2.2).bind fun t855 => (if t855 > 0 then (gradinelaw11_FsumExact.j1 kj2 a0 a1 true t832 t833 t836 t839 t840 t843) else ((gradineref07_Add.f kj2 t832 t833 t836 t832 t833 t836).bind fun bt856 => ((gradineref07_Cmp.f kj2 t839 t840 t843 bt856.1 bt856.2.1 bt856.2.2).bind fun t863 => (gradinelaw11_FsumExact.j1 kj2 a0 a1 (decide (t863 > 0)) t832 t833 t836 t839 t840 t843)))))) = some r := H
    have A15 := Aside0.mk A150
    clear A150
    have HC16 := Aside0.mk H
    clear H
    go_upto_region 4 with (first | ((with_reducible refine gate_callee (f := 30) rfl ?_); refine goesL_ (some 26) rfl rfl Try.func30 (by kernel_rfl) rfl #[.int .u64 a0] rfl (by (try simp only [List.map_toArray, List.map_cons, List.map_nil]); first | done | rfl | (simp only [List.length_drop, List.length_take]; rfl) | (simp only [*]; done)) ?_; (with_reducible refine (gradineref10_ToRat.calls kj2 a0 t832 t833 t836 _ A14.out).mono ?_); rintro e w17 ⟨v834, v837, rfl, ho0, ho1, hb⟩; refine ⟨_, rfl, ?_⟩; have n0_ := Aside0.mk (Kd.R_lower ho0 (below_size (bb HB.out))); have n1_ := Aside0.mk (Kd.R_lower ho1 (below_size (bb HB.out))); have n2_ := Aside0.mk (below_step (bb HB.out) hb); clear HB; have HO835 := n0_; have HO838 := n1_; have HB := n2_; clear n0_ n1_ n2_; (try clear hb); (try clear hb2); (try clear hk); (try clear hi); (try clear ho0); (try clear ho1)) | ((with_reducible refine gate_callee (f := 30) rfl ?_); refine goesL_ (some 28) rfl rfl Try.func30 (by kernel_rfl) rfl #[.int .u64 a1] rfl (by (try simp only [List.map_toArray, List.map_cons, List.map_nil]); first | done | rfl | (simp only [List.length_drop, List.length_take]; rfl) | (simp only [*]; done)) ?_; (with_reducible refine (gradineref10_ToRat.calls kj2 a1 t839 t840 t843 _ A15.out).mono ?_); rintro e w18 ⟨v841, v844, rfl, ho0, ho1, hb⟩; refine ⟨_, rfl, ?_⟩; have n0_ := Aside0.mk (Kd.R_mono (Kd.R_told (Kd.R_told (Kd.R_old (st HO835.out) hb) (Kd.R_base ho0)) (Kd.R_base ho1)) (fun _ h_ => h_.1)); have n1_ := Aside0.mk (Kd.R_mono (Kd.R_told (Kd.R_told (Kd.R_old (st HO838.out) hb) (Kd.R_base ho0)) (Kd.R_base ho1)) (fun _ h_ => h_.1)); have n2_ := Aside0.mk (Kd.R_lower (Kd.R_new' (Kd.R_new' ho0 (Kd.R_lt (st HO835.out))) (Kd.R_lt (st HO838.out))) (below_size (bb HB.out))); have n3_ := Aside0.mk (Kd.R_lower (Kd.R_new' (Kd.R_new' ho1 (Kd.R_lt (st HO835.out))) (Kd.R_lt (st HO838.out))) (below_size (bb HB.out))); have n4_ := Aside0.mk (below_step (bb HB.out) hb); clear HO835; clear HO838; clear HB; have HO835 := n0_; have HO838 := n1_; have HO842 := n2_; have HO845 := n3_; have HB := n4_; clear n0_ n1_ n2_ n3_ n4_; (try clear hb); (try clear hb2); (try clear hk); (try clear hi); (try clear ho0); (try clear ho1)) | ((with_reducible refine gate_dst (N := 5) rfl ?_); refine box_event ?hg (N := 5) ?hd (cs := #[.bool false, .slice none 0 0, .slice none 0 0]) (t := 32) ?hr ?_; (case hd => rfl); (case hg => rfl); (case hr => first | (go_simp; done) | (go_simp; rfl)); intro gb846 hg w19 hbox hb; have n0_ := Aside0.mk (Kd.R_below (st HO835.out) hb); have n1_ := Aside0.mk (Kd.R_below (st HO838.out) hb); have n2_ := Aside0.mk (Kd.R_below (st HO842.out) hb); have n3_ := Aside0.mk (Kd.R_below (st HO845.out) hb); have n4_ := Aside0.mk (below_step (bb HB.out) hb); have n5_ := Aside0.mk (hbox); have n6_ := Aside0.mk ((by rw [hg]; exact (below_size (bb HB.out)) : w.heap.size ≤ gb846)); have n7_ := Aside0.mk ((by rw [hg]; exact (below_size (bb HB.out)) : w.heap.size ≤ gb846)); clear HO835; clear HO838; clear HO842; clear HO845; clear HB; have HO835 := n0_; have HO838 := n1_; have HO842 := n2_; have HO845 := n3_; have HB := n4_; have BK846 := n5_; have GW846 := n6_; have GE846 := n7_; clear n0_ n1_ n2_ n3_ n4_ n5_ n6_ n7_; clear hb hbox hg) | ((with_reducible refine gate_dst (N := 6) rfl ?_); refine box_event ?hg (N := 6) ?hd (cs := #[.bool false, .slice none 0 0, .slice none 0 0]) (t := 32) ?hr ?_; (case hd => rfl); (case hg => rfl); (case hr => first | (go_simp; done) | (go_simp; rfl)); intro gb847 hg w20 hbox hb; have n0_ := Aside0.mk (Kd.R_below (st HO835.out) hb); have n1_ := Aside0.mk (Kd.R_below (st HO838.out) hb); have n2_ := Aside0.mk (Kd.R_below (st HO842.out) hb); have n3_ := Aside0.mk (Kd.R_below (st HO845.out) hb); have n4_ := Aside0.mk (blk_below (bk BK846.out) hb); have n5_ := Aside0.mk (below_step (by repeat (first | (with_reducible first | exact HB.out | apply below_alloc | apply pw_below_drewN | apply below_drew1 | refine below_set ?_ GE846.out) | exact HB.out)) hb); have n6_ := Aside0.mk (hbox); have n7_ := Aside0.mk ((by rw [hg]; exact (below_size (by repeat (first | (with_reducible first | exact HB.out | apply below_alloc | apply pw_below_drewN | apply below_drew1 | refine below_set ?_ GE846.out) | exact HB.out))) : w.heap.size ≤ gb847)); have n8_ := Aside0.mk ((by rw [hg]; exact (below_size (by repeat (first | (with_reducible first | exact HB.out | apply below_alloc | apply pw_below_drewN | apply below_drew1 | refine below_set ?_ GE846.out) | exact HB.out))) : w.heap.size ≤ gb847)); have n9_ := Aside0.mk ((by rw [hg]; exact Nat.ne_of_lt (blk_lt (bk BK846.out)) : gb846 ≠ gb847)); have n10_ := Aside0.mk ((by rw [hg]; exact Nat.ne_of_gt (blk_lt (bk BK846.out)) : gb847 ≠ gb846)); clear HO835; clear HO838; clear HO842; clear HO845; clear BK846; clear HB; have HO835 := n0_; have HO838 := n1_; have HO842 := n2_; have HO845 := n3_; have BK846 := n4_; have HB := n5_; have BK847 := n6_; have GW847 := n7_; have GE847 := n8_; have NB846_847 := n9_; have NB847_846 := n10_; clear n0_ n1_ n2_ n3_ n4_ n5_ n6_ n7_ n8_ n9_ n10_; clear hb hbox hg; have hnb21 := NB846_847.out; have hnc21 := NB847_846.out; have hcz22_0 : w20.cell? ⟨gb846, 0, none⟩ = some (.bool false) := (blk_cell BK846.out 0).trans rfl; have hcz22_1 : w20.cell? ⟨gb846, 1, none⟩ = some (.slice none 0 0) := (blk_cell BK846.out 1).trans rfl; have hcz22_2 : w20.cell? ⟨gb846, 2, none⟩ = some (.slice none 0 0) := (blk_cell BK846.out 2).trans rfl; have hfz22_0 := blk_frozen BK846.out 0; have hfz22_1 := blk_frozen BK846.out 1; have hfz22_2 := blk_frozen BK846.out 2; obtain ⟨Ao23, co23, eo23⟩ := Kd.R_slice HO835.out; subst eo23; obtain ⟨Ao24, co24, eo24⟩ := Kd.R_slice HO838.out; subst eo24; have hcz25_0 : w20.cell? ⟨gb847, 0, none⟩ = some (.bool false) := (blk_cell BK847.out 0).trans rfl; have hcz25_1 : w20.cell? ⟨gb847, 1, none⟩ = some (.slice none 0 0) := (blk_cell BK847.out 1).trans rfl; have hcz25_2 : w20.cell? ⟨gb847, 2, none⟩ = some (.slice none 0 0) := (blk_cell BK847.out 2).trans rfl; have hfz25_0 := blk_frozen BK847.out 0; have hfz25_1 := blk_frozen BK847.out 1; have hfz25_2 := blk_frozen BK847.out 2; obtain ⟨Ao26, co26, eo26⟩ := Kd.R_slice HO842.out; subst eo26; obtain ⟨Ao27, co27, eo27⟩ := Kd.R_slice HO845.out; subst eo27))
    (try simp only [Act.put, List.setIfInBounds_toArray, List.set_cons_zero, List.set_cons_succ])
    go_cut [42] (fun v42 wc => ∃ (kq : Nat) (x42_15 : Bool), v42 = .bool x42_15 ∧ Aside0 (gradinelaw11_FsumExact.j1 kq a0 a1 x42_15 t832 t833 t836 t839 t840 t843 = some r) ∧ Aside0 (kq ≤ kj2) ∧ Aside0 (Kd.R (Kd.int .u64) 22 wc w.heap.size (fun k_ => some k_ ≠ ((.slice Ao24 t836.length co24) : Value).ownBlock ∧ some k_ ≠ ((.slice Ao26 t840.length co26) : Value).ownBlock ∧ some k_ ≠ ((.slice Ao27 t843.length co27) : Value).ownBlock) (.slice Ao23 t833.length co23) t833) ∧ Aside0 (Kd.R (Kd.int .u64) 22 wc w.heap.size (fun k_ => some k_ ≠ ((.slice Ao23 t833.length co23) : Value).ownBlock ∧ some k_ ≠ ((.slice Ao26 t840.length co26) : Value).ownBlock ∧ some k_ ≠ ((.slice Ao27 t843.length co27) : Value).ownBlock) (.slice Ao24 t836.length co24) t836) ∧ Aside0 (Kd.R (Kd.int .u64) 22 wc w.heap.size (fun k_ => some k_ ≠ ((.slice Ao23 t833.length co23) : Value).ownBlock ∧ some k_ ≠ ((.slice Ao24 t836.length co24) : Value).ownBlock ∧ some k_ ≠ ((.slice Ao27 t843.length co27) : Value).ownBlock) (.slice Ao26 t840.length co26) t840) ∧ Aside0 (Kd.R (Kd.int .u64) 22 wc w.heap.size (fun k_ => some k_ ≠ ((.slice Ao23 t833.length co23) : Value).ownBlock ∧ some k_ ≠ ((.slice Ao24 t836.length co24) : Value).ownBlock ∧ some k_ ≠ ((.slice Ao26 t840.length co26) : Value).ownBlock) (.slice Ao27 t843.length co27) t843) ∧ Aside0 (wc.heap[gb846]? = some (.cells #[.bool t832, (.slice Ao23 t833.length co23), (.slice Ao24 t836.length co24)] 32 (0, 0))) ∧ Aside0 (wc.heap[gb847]? = some (.cells #[.bool t839, (.slice Ao26 t840.length co26), (.slice Ao27 t843.length co27)] 32 (0, 0))) ∧ Aside0 (Below w.heap.size w wc))
    case first =>
     have H := HC16.out
     clear HC16
     replace H := Option.bind_eq_some_iff.mp H
     obtain ⟨⟨t848, t849, t852⟩, A280, H⟩ := H
     replace H : ((gradineref07_Cmp.f kj2 t832 t833 t836 t848 t849 t852).bind fun t855 => (if t855 > 0 then (gradinelaw11_FsumExact.j1 kj2 a0 a1 true t832 t833 t836 t839 t840 t843) else ((gradineref07_Add.f kj2 t832 t833 t836 t832 t833 t836).bind fun bt856 => ((gradineref07_Cmp.f kj2 t839 t840 t843 bt856.1 bt856.2.1 bt856.2.2).bind fun t863 => (gradinelaw11_FsumExact.j1 kj2 a0 a1 (decide (t863 > 0)) t832 t833 t836 t839 t840 t843))))) = some r := H
     have A28 := Aside0.mk A280
     clear A280
     replace H := Option.bind_eq_some_iff.mp H
     obtain ⟨t855, A290, H⟩ := H
     replace H : (if t855 > 0 then (gradinelaw11_FsumExact.j1 kj2 a0 a1 true t832 t833 t836 t839 t840 t843) else ((gradineref07_Add.f kj2 t832 t833 t836 t832 t833 t836).bind fun bt856 => ((gradineref07_Cmp.f kj2 t839 t840 t843 bt856.1 bt856.2.1 bt856.2.2).bind fun t863 => (gradinelaw11_FsumExact.j1 kj2 a0 a1 (decide (t863 > 0)) t832 t833 t836 t839 t840 t843)))) = some r := H
     have A29 := Aside0.mk A290
     clear A290
     by_cases c30 : t855 > 0
     ·rw [if_pos c30] at H
      have c30b0 : decide (0 < t855) = true := decide_eq_true c30
      clear c30
      (first | rw [c30b0] | (simp only [i64_w, i32_w]; rw [c30b0]) | skip)
      have H' := Aside0.mk H
      clear H
      try go_wp2
      have n0_ : Aside0 (Kd.R (Kd.int .u64) 22 ((((((w20.setCell ⟨gb846, 0, none⟩ (.bool t832)).setCell ⟨gb846, 1, none⟩ (.slice Ao23 t833.length co23)).setCell ⟨gb846, 2, none⟩ (.slice Ao24 t836.length co24)).setCell ⟨gb847, 0, none⟩ (.bool t839)).setCell ⟨gb847, 1, none⟩ (.slice Ao26 t840.length co26)).setCell ⟨gb847, 2, none⟩ (.slice Ao27 t843.length co27)) w.heap.size (fun k_ => some k_ ≠ (.slice Ao24 t836.length co24 : Value).ownBlock ∧ some k_ ≠ (.slice Ao26 t840.length co26 : Value).ownBlock ∧ some k_ ≠ (.slice Ao27 t843.length co27 : Value).ownBlock) (.slice Ao23 t833.length co23) t833) := ⟨by (with_reducible repeat (first | apply Kd.R_alloc | apply Kd.R_drewN | apply Kd.R_drew)); exact Kd.R_mono (Kd.R_far (p := ⟨gb847, 2, none⟩) (Kd.R_far (p := ⟨gb847, 1, none⟩) (Kd.R_far (p := ⟨gb847, 0, none⟩) (Kd.R_far (p := ⟨gb846, 2, none⟩) (Kd.R_far (p := ⟨gb846, 1, none⟩) (Kd.R_far (p := ⟨gb846, 0, none⟩) (Kd.R_types (Kd.R_types HO835.out BK846.out (by decide)) BK847.out (by decide)) (fun _ hk => hk.1.2) (.bool t832)) (fun _ hk => hk.1.2) (.slice Ao23 t833.length co23)) (fun _ hk => hk.1.2) (.slice Ao24 t836.length co24)) (fun _ hk => hk.2) (.bool t839)) (fun _ hk => hk.2) (.slice Ao26 t840.length co26)) (fun _ hk => hk.2) (.slice Ao27 t843.length co27)) (fun _ hk => ⟨hk.1.1.1.1, ⟨hk.1.1.1.2, hk.1.1.2⟩⟩)⟩
      have n1_ : Aside0 (Kd.R (Kd.int .u64) 22 ((((((w20.setCell ⟨gb846, 0, none⟩ (.bool t832)).setCell ⟨gb846, 1, none⟩ (.slice Ao23 t833.length co23)).setCell ⟨gb846, 2, none⟩ (.slice Ao24 t836.length co24)).setCell ⟨gb847, 0, none⟩ (.bool t839)).setCell ⟨gb847, 1, none⟩ (.slice Ao26 t840.length co26)).setCell ⟨gb847, 2, none⟩ (.slice Ao27 t843.length co27)) w.heap.size (fun k_ => some k_ ≠ (.slice Ao23 t833.length co23 : Value).ownBlock ∧ some k_ ≠ (.slice Ao26 t840.length co26 : Value).ownBlock ∧ some k_ ≠ (.slice Ao27 t843.length co27 : Value).ownBlock) (.slice Ao24 t836.length co24) t836) := ⟨by (with_reducible repeat (first | apply Kd.R_alloc | apply Kd.R_drewN | apply Kd.R_drew)); exact Kd.R_mono (Kd.R_far (p := ⟨gb847, 2, none⟩) (Kd.R_far (p := ⟨gb847, 1, none⟩) (Kd.R_far (p := ⟨gb847, 0, none⟩) (Kd.R_far (p := ⟨gb846, 2, none⟩) (Kd.R_far (p := ⟨gb846, 1, none⟩) (Kd.R_far (p := ⟨gb846, 0, none⟩) (Kd.R_types (Kd.R_types HO838.out BK846.out (by decide)) BK847.out (by decide)) (fun _ hk => hk.1.2) (.bool t832)) (fun _ hk => hk.1.2) (.slice Ao23 t833.length co23)) (fun _ hk => hk.1.2) (.slice Ao24 t836.length co24)) (fun _ hk => hk.2) (.bool t839)) (fun _ hk => hk.2) (.slice Ao26 t840.length co26)) (fun _ hk => hk.2) (.slice Ao27 t843.length co27)) (fun _ hk => ⟨hk.1.1.1.1, ⟨hk.1.1.1.2, hk.1.1.2⟩⟩)⟩
      have n2_ : Aside0 (Kd.R (Kd.int .u64) 22 ((((((w20.setCell ⟨gb846, 0, none⟩ (.bool t832)).setCell ⟨gb846, 1, none⟩ (.slice Ao23 t833.length co23)).setCell ⟨gb846, 2, none⟩ (.slice Ao24 t836.length co24)).setCell ⟨gb847, 0, none⟩ (.bool t839)).setCell ⟨gb847, 1, none⟩ (.slice Ao26 t840.length co26)).setCell ⟨gb847, 2, none⟩ (.slice Ao27 t843.length co27)) w.heap.size (fun k_ => some k_ ≠ (.slice Ao23 t833.length co23 : Value).ownBlock ∧ some k_ ≠ (.slice Ao24 t836.length co24 : Value).ownBlock ∧ some k_ ≠ (.slice Ao27 t843.length co27 : Value).ownBlock) (.slice Ao26 t840.length co26) t840) := ⟨by (with_reducible repeat (first | apply Kd.R_alloc | apply Kd.R_drewN | apply Kd.R_drew)); exact Kd.R_mono (Kd.R_far (p := ⟨gb847, 2, none⟩) (Kd.R_far (p := ⟨gb847, 1, none⟩) (Kd.R_far (p := ⟨gb847, 0, none⟩) (Kd.R_far (p := ⟨gb846, 2, none⟩) (Kd.R_far (p := ⟨gb846, 1, none⟩) (Kd.R_far (p := ⟨gb846, 0, none⟩) (Kd.R_types (Kd.R_types HO842.out BK846.out (by decide)) BK847.out (by decide)) (fun _ hk => hk.1.2) (.bool t832)) (fun _ hk => hk.1.2) (.slice Ao23 t833.length co23)) (fun _ hk => hk.1.2) (.slice Ao24 t836.length co24)) (fun _ hk => hk.2) (.bool t839)) (fun _ hk => hk.2) (.slice Ao26 t840.length co26)) (fun _ hk => hk.2) (.slice Ao27 t843.length co27)) (fun _ hk => ⟨hk.1.1.1.2, ⟨hk.1.1.2, hk.1.1.1.1⟩⟩)⟩
      have n3_ : Aside0 (Kd.R (Kd.int .u64) 22 ((((((w20.setCell ⟨gb846, 0, none⟩ (.bool t832)).setCell ⟨gb846, 1, none⟩ (.slice Ao23 t833.length co23)).setCell ⟨gb846, 2, none⟩ (.slice Ao24 t836.length co24)).setCell ⟨gb847, 0, none⟩ (.bool t839)).setCell ⟨gb847, 1, none⟩ (.slice Ao26 t840.length co26)).setCell ⟨gb847, 2, none⟩ (.slice Ao27 t843.length co27)) w.heap.size (fun k_ => some k_ ≠ (.slice Ao23 t833.length co23 : Value).ownBlock ∧ some k_ ≠ (.slice Ao24 t836.length co24 : Value).ownBlock ∧ some k_ ≠ (.slice Ao26 t840.length co26 : Value).ownBlock) (.slice Ao27 t843.length co27) t843) := ⟨by (with_reducible repeat (first | apply Kd.R_alloc | apply Kd.R_drewN | apply Kd.R_drew)); exact Kd.R_mono (Kd.R_far (p := ⟨gb847, 2, none⟩) (Kd.R_far (p := ⟨gb847, 1, none⟩) (Kd.R_far (p := ⟨gb847, 0, none⟩) (Kd.R_far (p := ⟨gb846, 2, none⟩) (Kd.R_far (p := ⟨gb846, 1, none⟩) (Kd.R_far (p := ⟨gb846, 0, none⟩) (Kd.R_types (Kd.R_types HO845.out BK846.out (by decide)) BK847.out (by decide)) (fun _ hk => hk.1.2) (.bool t832)) (fun _ hk => hk.1.2) (.slice Ao23 t833.length co23)) (fun _ hk => hk.1.2) (.slice Ao24 t836.length co24)) (fun _ hk => hk.2) (.bool t839)) (fun _ hk => hk.2) (.slice Ao26 t840.length co26)) (fun _ hk => hk.2) (.slice Ao27 t843.length co27)) (fun _ hk => ⟨hk.1.1.1.2, ⟨hk.1.1.2, hk.1.1.1.1⟩⟩)⟩
      have n4_ : Aside0 (((((((w20.setCell ⟨gb846, 0, none⟩ (.bool t832)).setCell ⟨gb846, 1, none⟩ (.slice Ao23 t833.length co23)).setCell ⟨gb846, 2, none⟩ (.slice Ao24 t836.length co24)).setCell ⟨gb847, 0, none⟩ (.bool t839)).setCell ⟨gb847, 1, none⟩ (.slice Ao26 t840.length co26)).setCell ⟨gb847, 2, none⟩ (.slice Ao27 t843.length co27)).heap[gb846]? = some (.cells #[.bool t832, .slice Ao23 t833.length co23, .slice Ao24 t836.length co24] 32 (0, 0))) := ⟨by (with_reducible repeat (first | refine blk_drewN ?_ _ | refine blk_drew ?_ | refine blk_alloc ?_ _)); refine blk_far ?_ NB846_847.out _; (with_reducible repeat (first | refine blk_drewN ?_ _ | refine blk_drew ?_ | refine blk_alloc ?_ _)); refine blk_far ?_ NB846_847.out _; (with_reducible repeat (first | refine blk_drewN ?_ _ | refine blk_drew ?_ | refine blk_alloc ?_ _)); refine blk_far ?_ NB846_847.out _; (with_reducible repeat (first | refine blk_drewN ?_ _ | refine blk_drew ?_ | refine blk_alloc ?_ _)); refine blk_put (cs := #[.bool t832, .slice Ao23 t833.length co23, .slice none 0 0]) ?_ 2 _ rfl; (with_reducible repeat (first | refine blk_drewN ?_ _ | refine blk_drew ?_ | refine blk_alloc ?_ _)); refine blk_put (cs := #[.bool t832, .slice none 0 0, .slice none 0 0]) ?_ 1 _ rfl; (with_reducible repeat (first | refine blk_drewN ?_ _ | refine blk_drew ?_ | refine blk_alloc ?_ _)); refine blk_put (cs := #[.bool false, .slice none 0 0, .slice none 0 0]) ?_ 0 _ rfl; (with_reducible repeat (first | refine blk_drewN ?_ _ | refine blk_drew ?_ | refine blk_alloc ?_ _)); exact BK846.out⟩
      have n5_ : Aside0 (((((((w20.setCell ⟨gb846, 0, none⟩ (.bool t832)).setCell ⟨gb846, 1, none⟩ (.slice Ao23 t833.length co23)).setCell ⟨gb846, 2, none⟩ (.slice Ao24 t836.length co24)).setCell ⟨gb847, 0, none⟩ (.bool t839)).setCell ⟨gb847, 1, none⟩ (.slice Ao26 t840.length co26)).setCell ⟨gb847, 2, none⟩ (.slice Ao27 t843.length co27)).heap[gb847]? = some (.cells #[.bool t839, .slice Ao26 t840.length co26, .slice Ao27 t843.length co27] 32 (0, 0))) := ⟨by (with_reducible repeat (first | refine blk_drewN ?_ _ | refine blk_drew ?_ | refine blk_alloc ?_ _)); refine blk_put (cs := #[.bool t839, .slice Ao26 t840.length co26, .slice none 0 0]) ?_ 2 _ rfl; (with_reducible repeat (first | refine blk_drewN ?_ _ | refine blk_drew ?_ | refine blk_alloc ?_ _)); refine blk_put (cs := #[.bool t839, .slice none 0 0, .slice none 0 0]) ?_ 1 _ rfl; (with_reducible repeat (first | refine blk_drewN ?_ _ | refine blk_drew ?_ | refine blk_alloc ?_ _)); refine blk_put (cs := #[.bool false, .slice none 0 0, .slice none 0 0]) ?_ 0 _ rfl; (with_reducible repeat (first | refine blk_drewN ?_ _ | refine blk_drew ?_ | refine blk_alloc ?_ _)); refine blk_far ?_ NB847_846.out _; (with_reducible repeat (first | refine blk_drewN ?_ _ | refine blk_drew ?_ | refine blk_alloc ?_ _)); refine blk_far ?_ NB847_846.out _; (with_reducible repeat (first | refine blk_drewN ?_ _ | refine blk_drew ?_ | refine blk_alloc ?_ _)); refine blk_far ?_ NB847_846.out _; (with_reducible repeat (first | refine blk_drewN ?_ _ | refine blk_drew ?_ | refine blk_alloc ?_ _)); exact BK847.out⟩
      have n6_ : Aside0 (Below w.heap.size w ((((((w20.setCell ⟨gb846, 0, none⟩ (.bool t832)).setCell ⟨gb846, 1, none⟩ (.slice Ao23 t833.length co23)).setCell ⟨gb846, 2, none⟩ (.slice Ao24 t836.length co24)).setCell ⟨gb847, 0, none⟩ (.bool t839)).setCell ⟨gb847, 1, none⟩ (.slice Ao26 t840.length co26)).setCell ⟨gb847, 2, none⟩ (.slice Ao27 t843.length co27))) := ⟨by repeat (first | (with_reducible first | exact HB.out | apply below_alloc | apply pw_below_drewN | apply below_drew1 | refine below_set ?_ GE846.out | refine below_set ?_ GE847.out) | exact HB.out)⟩
      (try clear HO835)
      (try clear HO838)
      (try clear HO842)
      (try clear HO845)
      (try clear BK846)
      (try clear BK847)
      (try clear HB)
      generalize ((((((w20.setCell ⟨gb846, 0, none⟩ (.bool t832)).setCell ⟨gb846, 1, none⟩ (.slice Ao23 t833.length co23)).setCell ⟨gb846, 2, none⟩ (.slice Ao24 t836.length co24)).setCell ⟨gb847, 0, none⟩ (.bool t839)).setCell ⟨gb847, 1, none⟩ (.slice Ao26 t840.length co26)).setCell ⟨gb847, 2, none⟩ (.slice Ao27 t843.length co27)) = w31 at n0_ n1_ n2_ n3_ n4_ n5_ n6_ ⊢
      have HO835 := n0_
      have HO838 := n1_
      have HO842 := n2_
      have HO845 := n3_
      have BK846 := n4_
      have BK847 := n5_
      have HB := n6_
      clear n0_ n1_ n2_ n3_ n4_ n5_ n6_
      have n0_ := Aside0.mk (Kd.R_drew HO835.out)
      have n1_ := Aside0.mk (Kd.R_drew HO838.out)
      have n2_ := Aside0.mk (Kd.R_drew HO842.out)
      have n3_ := Aside0.mk (Kd.R_drew HO845.out)
      have n4_ := Aside0.mk (blk_drew BK846.out)
      have n5_ := Aside0.mk (blk_drew BK847.out)
      have n6_ := Aside0.mk (below_drew1 HB.out)
      clear HO835
      clear HO838
      clear HO842
      clear HO845
      clear BK846
      clear BK847
      clear HB
      have HO835 := n0_
      have HO838 := n1_
      have HO842 := n2_
      have HO845 := n3_
      have BK846 := n4_
      have BK847 := n5_
      have HB := n6_
      clear n0_ n1_ n2_ n3_ n4_ n5_ n6_
      refine start_ (n := 14) (S := fun w' => w'.cell? ⟨gb846, 0, none⟩ = some (.bool t832) ∧ w'.cell? ⟨gb846, 1, none⟩ = some (.slice Ao23 t833.length co23) ∧ w'.cell? ⟨gb846, 2, none⟩ = some (.slice Ao24 t836.length co24) ∧ w'.cell? ⟨gb847, 0, none⟩ = some (.bool t839) ∧ w'.cell? ⟨gb847, 1, none⟩ = some (.slice Ao26 t840.length co26) ∧ w'.cell? ⟨gb847, 2, none⟩ = some (.slice Ao27 t843.length co27)) (ds := []) #[false, false, false, false, false, false, false, false, false, false, false, false, false, false] (by kernel_rfl) rfl rfl ⟨(blk_cell BK846.out 0).trans rfl, (blk_cell BK846.out 1).trans rfl, (blk_cell BK846.out 2).trans rfl, (blk_cell BK847.out 0).trans rfl, (blk_cell BK847.out 1).trans rfl, (blk_cell BK847.out 2).trans rfl⟩ (fun hHeld => ?_); refine with_tabW gradinelaw11_FsumExact.tab4 gradinelaw11_FsumExact.bits4 (fun HT_ HW_ => ?_)
      generalize w31.drew = w32 at HO835 HO838 HO842 HO845 BK846 BK847 HB hHeld ⊢
      refine take_ (i := 0) (N := some 29) (v := ?_) (a' := ?_) #[true, false, false, false, false, false, false, false, false, false, false, false, false, false] rfl rfl (take_ofW HT_.out HW_.out (by kernel_rfl)) (fun _ _ _ h => h) (Or.inl ⟨by rfl, ?_⟩) hHeld ?_ ?_
      rotate_left
      ·rintro w' ⟨s0, s1, s2, s3, s4, s5⟩
       go_simp
       with_reducible rfl
      rotate_left
      ·simp only [Act.put, List.setIfInBounds_toArray, List.set_cons_zero, List.set_cons_succ, i64_w, i32_w]
       rfl
      refine take_ (i := 1) (N := some 30) (v := ?_) (a' := ?_) #[true, true, false, false, false, false, false, false, false, false, false, false, false, false] rfl rfl (take_ofW HT_.out HW_.out (by kernel_rfl)) (fun _ _ _ h => h) (Or.inl ⟨by rfl, ?_⟩) hHeld ?_ ?_
      rotate_left
      ·rintro w' ⟨s0, s1, s2, s3, s4, s5⟩
       go_simp
       with_reducible rfl
      rotate_left
      ·simp only [Act.put, List.setIfInBounds_toArray, List.set_cons_zero, List.set_cons_succ, i64_w, i32_w]
       rfl
      refine take_ (i := 2) (N := some 31) (v := ?_) (a' := ?_) #[true, true, true, false, false, false, false, false, false, false, false, false, false, false] rfl rfl (take_ofW HT_.out HW_.out (by kernel_rfl)) (fun _ _ _ h => h) (Or.inl ⟨by rfl, ?_⟩) hHeld ?_ ?_
      rotate_left
      ·rintro w' ⟨s0, s1, s2, s3, s4, s5⟩
       go_simp
       with_reducible rfl
      rotate_left
      ·simp only [Act.put, List.setIfInBounds_toArray, List.set_cons_zero, List.set_cons_succ, i64_w, i32_w]
       rfl
      refine one_ (i := 3) (N := some 32) #[true, true, true, true, false, false, false, false, false, false, false, false, false, false] rfl rfl (one_of HT_.out (by kernel_rfl)) (by decide) (fun K hK => ?_)
      refine goes_ Try.func60 (by kernel_rfl) rfl #[.agg #[.bool t839, .slice Ao26 t840.length co26, .slice Ao27 t843.length co27], .agg #[.bool t839, .slice Ao26 t840.length co26, .slice Ao27 t843.length co27]] (by rfl) rfl rfl (by (try simp only [List.map_toArray, List.map_cons, List.map_nil]); first | done | rfl | (simp only [List.length_drop, List.length_take]; rfl) | (simp only [*]; done)) ?_
      with_reducible refine (gradineref07_Add.calls kj2 t839 _ _ t840 _ _ t843 t839 _ _ t840 _ _ t843 t848 t849 t852 _ ?side1 ?side2 ?side3 ?side4 ?side5 ?side6 ?side7 ?side8 A28.out).mono ?_
      (case side1 => exact cs (Kd.R_reads' HO842.out).2.2)
      (case side2 => exact (Kd.R_reads' HO842.out).2.1)
      (case side3 => exact cs (Kd.R_reads' HO845.out).2.2)
      (case side4 => exact (Kd.R_reads' HO845.out).2.1)
      (case side5 => exact cs (Kd.R_reads' HO842.out).2.2)
      (case side6 => exact (Kd.R_reads' HO842.out).2.1)
      (case side7 => exact cs (Kd.R_reads' HO845.out).2.2)
      (case side8 => exact (Kd.R_reads' HO845.out).2.1)
      rintro e w33 ⟨v850, v853, rfl, ho0, ho1, hb⟩
      refine ⟨_, rfl, ?_⟩
      have n0_ := Aside0.mk (Kd.R_mono (Kd.R_told (Kd.R_told (Kd.R_old (st HO835.out) hb) (Kd.R_base ho0)) (Kd.R_base ho1)) (fun _ h_ => h_.1))
      have n1_ := Aside0.mk (Kd.R_mono (Kd.R_told (Kd.R_told (Kd.R_old (st HO838.out) hb) (Kd.R_base ho0)) (Kd.R_base ho1)) (fun _ h_ => h_.1))
      have n2_ := Aside0.mk (Kd.R_mono (Kd.R_told (Kd.R_told (Kd.R_old (st HO842.out) hb) (Kd.R_base ho0)) (Kd.R_base ho1)) (fun _ h_ => h_.1))
      have n3_ := Aside0.mk (Kd.R_mono (Kd.R_told (Kd.R_told (Kd.R_old (st HO845.out) hb) (Kd.R_base ho0)) (Kd.R_base ho1)) (fun _ h_ => h_.1))
      have n4_ := Aside0.mk (Kd.R_lower (Kd.R_new' (Kd.R_new' (Kd.R_new' (Kd.R_new' ho0 (Kd.R_lt (st HO835.out))) (Kd.R_lt (st HO838.out))) (Kd.R_lt (st HO842.out))) (Kd.R_lt (st HO845.out))) (below_size (by repeat (first | (with_reducible first | exact HB.out | apply below_alloc | apply pw_below_drewN | apply below_drew1 | refine below_set ?_ GE846.out | refine below_set ?_ GE847.out) | exact HB.out))))
      have n5_ := Aside0.mk (Kd.R_lower (Kd.R_new' (Kd.R_new' (Kd.R_new' (Kd.R_new' ho1 (Kd.R_lt (st HO835.out))) (Kd.R_lt (st HO838.out))) (Kd.R_lt (st HO842.out))) (Kd.R_lt (st HO845.out))) (below_size (by repeat (first | (with_reducible first | exact HB.out | apply below_alloc | apply pw_below_drewN | apply below_drew1 | refine below_set ?_ GE846.out | refine below_set ?_ GE847.out) | exact HB.out))))
      have n6_ := Aside0.mk (blk_below (bk BK846.out) hb)
      have n7_ := Aside0.mk (blk_below (bk BK847.out) hb)
      have n8_ := Aside0.mk (below_step (by repeat (first | (with_reducible first | exact HB.out | apply below_alloc | apply pw_below_drewN | apply below_drew1 | refine below_set ?_ GE846.out | refine below_set ?_ GE847.out) | exact HB.out)) hb)
      clear HO835
      clear HO838
      clear HO842
      clear HO845
      clear BK846
      clear BK847
      clear HB
      have HO835 := n0_
      have HO838 := n1_
      have HO842 := n2_
      have HO845 := n3_
      have HO851 := n4_
      have HO854 := n5_
      have BK846 := n6_
      have BK847 := n7_
      have HB := n8_
      clear n0_ n1_ n2_ n3_ n4_ n5_ n6_ n7_ n8_
      (try clear hb)
      (try clear hb2)
      (try clear hk)
      (try clear hi)
      (try clear ho0)
      (try clear ho1)
      obtain ⟨Ao34, co34, eo34⟩ := Kd.R_slice HO851.out
      (first | subst eo34 | (injection eo34 with f1_ f2_ f3_; have f4_ := f1_.symm; have f5_ := f3_.symm; clear f1_ f2_ f3_; subst f4_; subst f5_))
      obtain ⟨Ao35, co35, eo35⟩ := Kd.R_slice HO854.out
      (first | subst eo35 | (injection eo35 with f1_ f2_ f3_; have f4_ := f1_.symm; have f5_ := f3_.symm; clear f1_ f2_ f3_; subst f4_; subst f5_))
      refine hK.out _ _ ⟨(blk_cell BK846.out 0).trans rfl, (blk_cell BK846.out 1).trans rfl, (blk_cell BK846.out 2).trans rfl, (blk_cell BK847.out 0).trans rfl, (blk_cell BK847.out 1).trans rfl, (blk_cell BK847.out 2).trans rfl⟩ (fun hHeld => ?_)
      clear hK K
      refine norm_ (a' := ?_) ?_ ?_
      rotate_left
      ·show Act.put _ (some 32) _ = _
       simp only [Act.put, List.setIfInBounds_toArray, List.set_cons_zero, List.set_cons_succ, i64_w, i32_w]
       rfl
      refine one_ (i := 4) (N := some 33) #[true, true, true, true, true, false, false, false, false, false, false, false, false, false] rfl rfl (one_of HT_.out (by kernel_rfl)) (by decide) (fun K hK => ?_)
      refine goes_ Try.func29 (by kernel_rfl) rfl #[.agg #[.bool t832, .slice Ao23 t833.length co23, .slice Ao24 t836.length co24], .agg #[.bool t848, .slice Ao34 t849.length co34, .slice Ao35 t852.length co35]] (by rfl) rfl rfl (by (try simp only [List.map_toArray, List.map_cons, List.map_nil]); first | done | rfl | (simp only [List.length_drop, List.length_take]; rfl) | (simp only [*]; done)) ?_
      with_reducible refine (gradineref07_Cmp.calls kj2 t832 _ _ t833 _ _ t836 t848 _ _ t849 _ _ t852 t855 _ ?side1 ?side2 ?side3 ?side4 ?side5 ?side6 ?side7 ?side8 A29.out).mono ?_
      (case side1 => exact cs (Kd.R_reads' HO835.out).2.2)
      (case side2 => exact (Kd.R_reads' HO835.out).2.1)
      (case side3 => exact cs (Kd.R_reads' HO838.out).2.2)
      (case side4 => exact (Kd.R_reads' HO838.out).2.1)
      (case side5 => exact cs (Kd.R_reads' HO851.out).2.2)
      (case side6 => exact (Kd.R_reads' HO851.out).2.1)
      (case side7 => exact cs (Kd.R_reads' HO854.out).2.2)
      (case side8 => exact (Kd.R_reads' HO854.out).2.1)
      rintro e w36 ⟨rfl, hb⟩
      refine ⟨_, rfl, ?_⟩
      have n0_ := Aside0.mk (Kd.R_below (st HO835.out) hb)
      have n1_ := Aside0.mk (Kd.R_below (st HO838.out) hb)
      have n2_ := Aside0.mk (Kd.R_below (st HO842.out) hb)
      have n3_ := Aside0.mk (Kd.R_below (st HO845.out) hb)
      have n4_ := Aside0.mk (Kd.R_below (st HO851.out) hb)
      have n5_ := Aside0.mk (Kd.R_below (st HO854.out) hb)
      have n6_ := Aside0.mk (blk_below (bk BK846.out) hb)
      have n7_ := Aside0.mk (blk_below (bk BK847.out) hb)
      have n8_ := Aside0.mk (below_step (by repeat (first | (with_reducible first | exact HB.out | apply below_alloc | apply pw_below_drewN | apply below_drew1 | refine below_set ?_ GE846.out | refine below_set ?_ GE847.out) | exact HB.out)) hb)
      clear HO835
      clear HO838
      clear HO842
      clear HO845
      clear HO851
      clear HO854
      clear BK846
      clear BK847
      clear HB
      have HO835 := n0_
      have HO838 := n1_
      have HO842 := n2_
      have HO845 := n3_
      have HO851 := n4_
      have HO854 := n5_
      have BK846 := n6_
      have BK847 := n7_
      have HB := n8_
      clear n0_ n1_ n2_ n3_ n4_ n5_ n6_ n7_ n8_
      (try clear hb)
      (try clear hb2)
      (try clear hk)
      (try clear hi)
      refine hK.out _ _ ⟨(blk_cell BK846.out 0).trans rfl, (blk_cell BK846.out 1).trans rfl, (blk_cell BK846.out 2).trans rfl, (blk_cell BK847.out 0).trans rfl, (blk_cell BK847.out 1).trans rfl, (blk_cell BK847.out 2).trans rfl⟩ (fun hHeld => ?_)
      clear hK K
      refine norm_ (a' := ?_) ?_ ?_
      rotate_left
      ·show Act.put _ (some 33) _ = _
       simp only [Act.put, List.setIfInBounds_toArray, List.set_cons_zero, List.set_cons_succ, i64_w, i32_w]
       rfl
      refine pure_ (i := 5) (N := some 34) (v := ?_) (a' := ?_) #[true, true, true, true, true, true, false, false, false, false, false, false, false, false] rfl rfl (any_of HT_.out (by kernel_rfl)) (fun _ _ _ h => h) (Or.inl ⟨by rfl, ?_⟩) ?_ ?_
      rotate_left
      ·intro w'
       go_simp
       with_reducible rfl
      rotate_left
      ·simp only [Act.put, List.setIfInBounds_toArray, List.set_cons_zero, List.set_cons_succ, i64_w, i32_w]
       rfl
      refine pure_ (i := 6) (N := some 35) (v := ?_) (a' := ?_) #[true, true, true, true, true, true, true, false, false, false, false, false, false, false] rfl rfl (any_of HT_.out (by kernel_rfl)) (fun _ _ _ h => h) (Or.inl ⟨by rfl, ?_⟩) ?_ ?_
      rotate_left
      ·intro w'
       go_simp
       with_reducible rfl
      rotate_left
      ·simp only [Act.put, List.setIfInBounds_toArray, List.set_cons_zero, List.set_cons_succ, i64_w, i32_w]
       rfl
      refine pure_ (i := 7) (N := some 36) (v := undef) (a' := ?_) #[true, true, true, true, true, true, true, true, false, false, false, false, false, false] rfl rfl (any_of HT_.out (by kernel_rfl)) (fun _ _ _ h => h) (Or.inr ⟨by rfl, rfl⟩) ?_ ?_
      rotate_left
      ·simp only [Act.put, List.setIfInBounds_toArray, List.set_cons_zero, List.set_cons_succ, i64_w, i32_w]
       rfl
      refine pure_ (i := 8) (N := some 37) (v := undef) (a' := ?_) #[true, true, true, true, true, true, true, true, true, false, false, false, false, false] rfl rfl (any_of HT_.out (by kernel_rfl)) (fun _ _ _ h => h) (Or.inr ⟨by rfl, rfl⟩) ?_ ?_
      rotate_left
      ·simp only [Act.put, List.setIfInBounds_toArray, List.set_cons_zero, List.set_cons_succ, i64_w, i32_w]
       rfl
      refine pure_ (i := 9) (N := some 38) (v := undef) (a' := ?_) #[true, true, true, true, true, true, true, true, true, true, false, false, false, false] rfl rfl (any_of HT_.out (by kernel_rfl)) (fun _ _ _ h => h) (Or.inr ⟨by rfl, rfl⟩) ?_ ?_
      rotate_left
      ·simp only [Act.put, List.setIfInBounds_toArray, List.set_cons_zero, List.set_cons_succ, i64_w, i32_w]
       rfl
      refine pure_ (i := 10) (N := some 39) (v := undef) (a' := ?_) #[true, true, true, true, true, true, true, true, true, true, true, false, false, false] rfl rfl (any_of HT_.out (by kernel_rfl)) (fun _ _ _ h => h) (Or.inr ⟨by rfl, rfl⟩) ?_ ?_
      rotate_left
      ·simp only [Act.put, List.setIfInBounds_toArray, List.set_cons_zero, List.set_cons_succ, i64_w, i32_w]
       rfl
      refine pure_ (i := 11) (N := some 40) (v := undef) (a' := ?_) #[true, true, true, true, true, true, true, true, true, true, true, true, false, false] rfl rfl (any_of HT_.out (by kernel_rfl)) (fun _ _ _ h => h) (Or.inr ⟨by rfl, rfl⟩) ?_ ?_
      rotate_left
      ·simp only [Act.put, List.setIfInBounds_toArray, List.set_cons_zero, List.set_cons_succ, i64_w, i32_w]
       rfl
      refine pure_ (i := 12) (N := some 41) (v := undef) (a' := ?_) #[true, true, true, true, true, true, true, true, true, true, true, true, true, false] rfl rfl (any_of HT_.out (by kernel_rfl)) (fun _ _ _ h => h) (Or.inr ⟨by rfl, rfl⟩) ?_ ?_
      rotate_left
      ·simp only [Act.put, List.setIfInBounds_toArray, List.set_cons_zero, List.set_cons_succ, i64_w, i32_w]
       rfl
      refine pure_ (i := 13) (N := some 42) (v := ?_) (a' := ?_) #[true, true, true, true, true, true, true, true, true, true, true, true, true, true] rfl rfl (any_of HT_.out (by kernel_rfl)) (fun _ _ _ h => h) (Or.inl ⟨by rfl, ?_⟩) ?_ ?_
      rotate_left
      ·intro w'
       go_simp
       with_reducible rfl
      rotate_left
      ·simp only [Act.put, List.setIfInBounds_toArray, List.set_cons_zero, List.set_cons_succ, i64_w, i32_w]
       rfl
      refine done_ (done_of HT_.out (by kernel_rfl)) ?_
      try go_wp2
      go_meet
      case rel => exact ⟨_, (true), (by first | rfl | (simp; done) | (simp [*]; done)), H', ⟨by have := HJ2.out; first | omega | exact Nat.le_refl _⟩, ⟨by (with_reducible repeat (first | apply Kd.R_alloc | apply Kd.R_drewN | apply Kd.R_drew)); exact Kd.R_mono HO835.out (fun _ hk => ⟨hk.1.1.1, ⟨hk.1.1.2.1, hk.1.1.2.2⟩⟩)⟩, ⟨by (with_reducible repeat (first | apply Kd.R_alloc | apply Kd.R_drewN | apply Kd.R_drew)); exact Kd.R_mono HO838.out (fun _ hk => ⟨hk.1.1.1, ⟨hk.1.1.2.1, hk.1.1.2.2⟩⟩)⟩, ⟨by (with_reducible repeat (first | apply Kd.R_alloc | apply Kd.R_drewN | apply Kd.R_drew)); exact Kd.R_mono HO842.out (fun _ hk => ⟨hk.1.1.1, ⟨hk.1.1.2.1, hk.1.1.2.2⟩⟩)⟩, ⟨by (with_reducible repeat (first | apply Kd.R_alloc | apply Kd.R_drewN | apply Kd.R_drew)); exact Kd.R_mono HO845.out (fun _ hk => ⟨hk.1.1.1, ⟨hk.1.1.2.1, hk.1.1.2.2⟩⟩)⟩, ⟨by (with_reducible repeat (first | refine blk_drewN ?_ _ | refine blk_drew ?_ | refine blk_alloc ?_ _)); exact BK846.out⟩, ⟨by (with_reducible repeat (first | refine blk_drewN ?_ _ | refine blk_drew ?_ | refine blk_alloc ?_ _)); exact BK847.out⟩, ⟨by repeat (first | (with_reducible first | exact HB.out | apply below_alloc | apply pw_below_drewN | apply below_drew1 | refine below_set ?_ GE846.out | refine below_set ?_ GE847.out) | exact HB.out)⟩⟩
     ·rw [if_neg c30] at H
      have c30b0 : decide (0 < t855) = false := decide_eq_false c30
      clear c30
      (first | rw [c30b0] | (simp only [i64_w, i32_w]; rw [c30b0]) | skip)
      replace H := Option.bind_eq_some_iff.mp H
      obtain ⟨⟨t856, t857, t860⟩, A370, H⟩ := H
      replace H : ((gradineref07_Cmp.f kj2 t839 t840 t843 t856 t857 t860).bind fun t863 => (gradinelaw11_FsumExact.j1 kj2 a0 a1 (decide (t863 > 0)) t832 t833 t836 t839 t840 t843)) = some r := H
      have A37 := Aside0.mk A370
      clear A370
      replace H := Option.bind_eq_some_iff.mp H
      obtain ⟨t863, A380, H⟩ := H
      replace H : (gradinelaw11_FsumExact.j1 kj2 a0 a1 (decide (t863 > 0)) t832 t833 t836 t839 t840 t843) = some r := H
      have A38 := Aside0.mk A380
      clear A380
      have H' := Aside0.mk H
      clear H
      try go_wp2
      have n0_ : Aside0 (Kd.R (Kd.int .u64) 22 ((((((w20.setCell ⟨gb846, 0, none⟩ (.bool t832)).setCell ⟨gb846, 1, none⟩ (.slice Ao23 t833.length co23)).setCell ⟨gb846, 2, none⟩ (.slice Ao24 t836.length co24)).setCell ⟨gb847, 0, none⟩ (.bool t839)).setCell ⟨gb847, 1, none⟩ (.slice Ao26 t840.length co26)).setCell ⟨gb847, 2, none⟩ (.slice Ao27 t843.length co27)) w.heap.size (fun k_ => some k_ ≠ (.slice Ao24 t836.length co24 : Value).ownBlock ∧ some k_ ≠ (.slice Ao26 t840.length co26 : Value).ownBlock ∧ some k_ ≠ (.slice Ao27 t843.length co27 : Value).ownBlock) (.slice Ao23 t833.length co23) t833) := ⟨by (with_reducible repeat (first | apply Kd.R_alloc | apply Kd.R_drewN | apply Kd.R_drew)); exact Kd.R_mono (Kd.R_far (p := ⟨gb847, 2, none⟩) (Kd.R_far (p := ⟨gb847, 1, none⟩) (Kd.R_far (p := ⟨gb847, 0, none⟩) (Kd.R_far (p := ⟨gb846, 2, none⟩) (Kd.R_far (p := ⟨gb846, 1, none⟩) (Kd.R_far (p := ⟨gb846, 0, none⟩) (Kd.R_types (Kd.R_types HO835.out BK846.out (by decide)) BK847.out (by decide)) (fun _ hk => hk.1.2) (.bool t832)) (fun _ hk => hk.1.2) (.slice Ao23 t833.length co23)) (fun _ hk => hk.1.2) (.slice Ao24 t836.length co24)) (fun _ hk => hk.2) (.bool t839)) (fun _ hk => hk.2) (.slice Ao26 t840.length co26)) (fun _ hk => hk.2) (.slice Ao27 t843.length co27)) (fun _ hk => ⟨hk.1.1.1.1, ⟨hk.1.1.1.2, hk.1.1.2⟩⟩)⟩
      have n1_ : Aside0 (Kd.R (Kd.int .u64) 22 ((((((w20.setCell ⟨gb846, 0, none⟩ (.bool t832)).setCell ⟨gb846, 1, none⟩ (.slice Ao23 t833.length co23)).setCell ⟨gb846, 2, none⟩ (.slice Ao24 t836.length co24)).setCell ⟨gb847, 0, none⟩ (.bool t839)).setCell ⟨gb847, 1, none⟩ (.slice Ao26 t840.length co26)).setCell ⟨gb847, 2, none⟩ (.slice Ao27 t843.length co27)) w.heap.size (fun k_ => some k_ ≠ (.slice Ao23 t833.length co23 : Value).ownBlock ∧ some k_ ≠ (.slice Ao26 t840.length co26 : Value).ownBlock ∧ some k_ ≠ (.slice Ao27 t843.length co27 : Value).ownBlock) (.slice Ao24 t836.length co24) t836) := ⟨by (with_reducible repeat (first | apply Kd.R_alloc | apply Kd.R_drewN | apply Kd.R_drew)); exact Kd.R_mono (Kd.R_far (p := ⟨gb847, 2, none⟩) (Kd.R_far (p := ⟨gb847, 1, none⟩) (Kd.R_far (p := ⟨gb847, 0, none⟩) (Kd.R_far (p := ⟨gb846, 2, none⟩) (Kd.R_far (p := ⟨gb846, 1, none⟩) (Kd.R_far (p := ⟨gb846, 0, none⟩) (Kd.R_types (Kd.R_types HO838.out BK846.out (by decide)) BK847.out (by decide)) (fun _ hk => hk.1.2) (.bool t832)) (fun _ hk => hk.1.2) (.slice Ao23 t833.length co23)) (fun _ hk => hk.1.2) (.slice Ao24 t836.length co24)) (fun _ hk => hk.2) (.bool t839)) (fun _ hk => hk.2) (.slice Ao26 t840.length co26)) (fun _ hk => hk.2) (.slice Ao27 t843.length co27)) (fun _ hk => ⟨hk.1.1.1.1, ⟨hk.1.1.1.2, hk.1.1.2⟩⟩)⟩
      have n2_ : Aside0 (Kd.R (Kd.int .u64) 22 ((((((w20.setCell ⟨gb846, 0, none⟩ (.bool t832)).setCell ⟨gb846, 1, none⟩ (.slice Ao23 t833.length co23)).setCell ⟨gb846, 2, none⟩ (.slice Ao24 t836.length co24)).setCell ⟨gb847, 0, none⟩ (.bool t839)).setCell ⟨gb847, 1, none⟩ (.slice Ao26 t840.length co26)).setCell ⟨gb847, 2, none⟩ (.slice Ao27 t843.length co27)) w.heap.size (fun k_ => some k_ ≠ (.slice Ao23 t833.length co23 : Value).ownBlock ∧ some k_ ≠ (.slice Ao24 t836.length co24 : Value).ownBlock ∧ some k_ ≠ (.slice Ao27 t843.length co27 : Value).ownBlock) (.slice Ao26 t840.length co26) t840) := ⟨by (with_reducible repeat (first | apply Kd.R_alloc | apply Kd.R_drewN | apply Kd.R_drew)); exact Kd.R_mono (Kd.R_far (p := ⟨gb847, 2, none⟩) (Kd.R_far (p := ⟨gb847, 1, none⟩) (Kd.R_far (p := ⟨gb847, 0, none⟩) (Kd.R_far (p := ⟨gb846, 2, none⟩) (Kd.R_far (p := ⟨gb846, 1, none⟩) (Kd.R_far (p := ⟨gb846, 0, none⟩) (Kd.R_types (Kd.R_types HO842.out BK846.out (by decide)) BK847.out (by decide)) (fun _ hk => hk.1.2) (.bool t832)) (fun _ hk => hk.1.2) (.slice Ao23 t833.length co23)) (fun _ hk => hk.1.2) (.slice Ao24 t836.length co24)) (fun _ hk => hk.2) (.bool t839)) (fun _ hk => hk.2) (.slice Ao26 t840.length co26)) (fun _ hk => hk.2) (.slice Ao27 t843.length co27)) (fun _ hk => ⟨hk.1.1.1.2, ⟨hk.1.1.2, hk.1.1.1.1⟩⟩)⟩
      have n3_ : Aside0 (Kd.R (Kd.int .u64) 22 ((((((w20.setCell ⟨gb846, 0, none⟩ (.bool t832)).setCell ⟨gb846, 1, none⟩ (.slice Ao23 t833.length co23)).setCell ⟨gb846, 2, none⟩ (.slice Ao24 t836.length co24)).setCell ⟨gb847, 0, none⟩ (.bool t839)).setCell ⟨gb847, 1, none⟩ (.slice Ao26 t840.length co26)).setCell ⟨gb847, 2, none⟩ (.slice Ao27 t843.length co27)) w.heap.size (fun k_ => some k_ ≠ (.slice Ao23 t833.length co23 : Value).ownBlock ∧ some k_ ≠ (.slice Ao24 t836.length co24 : Value).ownBlock ∧ some k_ ≠ (.slice Ao26 t840.length co26 : Value).ownBlock) (.slice Ao27 t843.length co27) t843) := ⟨by (with_reducible repeat (first | apply Kd.R_alloc | apply Kd.R_drewN | apply Kd.R_drew)); exact Kd.R_mono (Kd.R_far (p := ⟨gb847, 2, none⟩) (Kd.R_far (p := ⟨gb847, 1, none⟩) (Kd.R_far (p := ⟨gb847, 0, none⟩) (Kd.R_far (p := ⟨gb846, 2, none⟩) (Kd.R_far (p := ⟨gb846, 1, none⟩) (Kd.R_far (p := ⟨gb846, 0, none⟩) (Kd.R_types (Kd.R_types HO845.out BK846.out (by decide)) BK847.out (by decide)) (fun _ hk => hk.1.2) (.bool t832)) (fun _ hk => hk.1.2) (.slice Ao23 t833.length co23)) (fun _ hk => hk.1.2) (.slice Ao24 t836.length co24)) (fun _ hk => hk.2) (.bool t839)) (fun _ hk => hk.2) (.slice Ao26 t840.length co26)) (fun _ hk => hk.2) (.slice Ao27 t843.length co27)) (fun _ hk => ⟨hk.1.1.1.2, ⟨hk.1.1.2, hk.1.1.1.1⟩⟩)⟩
      have n4_ : Aside0 (((((((w20.setCell ⟨gb846, 0, none⟩ (.bool t832)).setCell ⟨gb846, 1, none⟩ (.slice Ao23 t833.length co23)).setCell ⟨gb846, 2, none⟩ (.slice Ao24 t836.length co24)).setCell ⟨gb847, 0, none⟩ (.bool t839)).setCell ⟨gb847, 1, none⟩ (.slice Ao26 t840.length co26)).setCell ⟨gb847, 2, none⟩ (.slice Ao27 t843.length co27)).heap[gb846]? = some (.cells #[.bool t832, .slice Ao23 t833.length co23, .slice Ao24 t836.length co24] 32 (0, 0))) := ⟨by (with_reducible repeat (first | refine blk_drewN ?_ _ | refine blk_drew ?_ | refine blk_alloc ?_ _)); refine blk_far ?_ NB846_847.out _; (with_reducible repeat (first | refine blk_drewN ?_ _ | refine blk_drew ?_ | refine blk_alloc ?_ _)); refine blk_far ?_ NB846_847.out _; (with_reducible repeat (first | refine blk_drewN ?_ _ | refine blk_drew ?_ | refine blk_alloc ?_ _)); refine blk_far ?_ NB846_847.out _; (with_reducible repeat (first | refine blk_drewN ?_ _ | refine blk_drew ?_ | refine blk_alloc ?_ _)); refine blk_put (cs := #[.bool t832, .slice Ao23 t833.length co23, .slice none 0 0]) ?_ 2 _ rfl; (with_reducible repeat (first | refine blk_drewN ?_ _ | refine blk_drew ?_ | refine blk_alloc ?_ _)); refine blk_put (cs := #[.bool t832, .slice none 0 0, .slice none 0 0]) ?_ 1 _ rfl; (with_reducible repeat (first | refine blk_drewN ?_ _ | refine blk_drew ?_ | refine blk_alloc ?_ _)); refine blk_put (cs := #[.bool false, .slice none 0 0, .slice none 0 0]) ?_ 0 _ rfl; (with_reducible repeat (first | refine blk_drewN ?_ _ | refine blk_drew ?_ | refine blk_alloc ?_ _)); exact BK846.out⟩
      have n5_ : Aside0 (((((((w20.setCell ⟨gb846, 0, none⟩ (.bool t832)).setCell ⟨gb846, 1, none⟩ (.slice Ao23 t833.length co23)).setCell ⟨gb846, 2, none⟩ (.slice Ao24 t836.length co24)).setCell ⟨gb847, 0, none⟩ (.bool t839)).setCell ⟨gb847, 1, none⟩ (.slice Ao26 t840.length co26)).setCell ⟨gb847, 2, none⟩ (.slice Ao27 t843.length co27)).heap[gb847]? = some (.cells #[.bool t839, .slice Ao26 t840.length co26, .slice Ao27 t843.length co27] 32 (0, 0))) := ⟨by (with_reducible repeat (first | refine blk_drewN ?_ _ | refine blk_drew ?_ | refine blk_alloc ?_ _)); refine blk_put (cs := #[.bool t839, .slice Ao26 t840.length co26, .slice none 0 0]) ?_ 2 _ rfl; (with_reducible repeat (first | refine blk_drewN ?_ _ | refine blk_drew ?_ | refine blk_alloc ?_ _)); refine blk_put (cs := #[.bool t839, .slice none 0 0, .slice none 0 0]) ?_ 1 _ rfl; (with_reducible repeat (first | refine blk_drewN ?_ _ | refine blk_drew ?_ | refine blk_alloc ?_ _)); refine blk_put (cs := #[.bool false, .slice none 0 0, .slice none 0 0]) ?_ 0 _ rfl; (with_reducible repeat (first | refine blk_drewN ?_ _ | refine blk_drew ?_ | refine blk_alloc ?_ _)); refine blk_far ?_ NB847_846.out _; (with_reducible repeat (first | refine blk_drewN ?_ _ | refine blk_drew ?_ | refine blk_alloc ?_ _)); refine blk_far ?_ NB847_846.out _; (with_reducible repeat (first | refine blk_drewN ?_ _ | refine blk_drew ?_ | refine blk_alloc ?_ _)); refine blk_far ?_ NB847_846.out _; (with_reducible repeat (first | refine blk_drewN ?_ _ | refine blk_drew ?_ | refine blk_alloc ?_ _)); exact BK847.out⟩
      have n6_ : Aside0 (Below w.heap.size w ((((((w20.setCell ⟨gb846, 0, none⟩ (.bool t832)).setCell ⟨gb846, 1, none⟩ (.slice Ao23 t833.length co23)).setCell ⟨gb846, 2, none⟩ (.slice Ao24 t836.length co24)).setCell ⟨gb847, 0, none⟩ (.bool t839)).setCell ⟨gb847, 1, none⟩ (.slice Ao26 t840.length co26)).setCell ⟨gb847, 2, none⟩ (.slice Ao27 t843.length co27))) := ⟨by repeat (first | (with_reducible first | exact HB.out | apply below_alloc | apply pw_below_drewN | apply below_drew1 | refine below_set ?_ GE846.out | refine below_set ?_ GE847.out) | exact HB.out)⟩
      (try clear HO835)
      (try clear HO838)
      (try clear HO842)
      (try clear HO845)
      (try clear BK846)
      (try clear BK847)
      (try clear HB)
      generalize ((((((w20.setCell ⟨gb846, 0, none⟩ (.bool t832)).setCell ⟨gb846, 1, none⟩ (.slice Ao23 t833.length co23)).setCell ⟨gb846, 2, none⟩ (.slice Ao24 t836.length co24)).setCell ⟨gb847, 0, none⟩ (.bool t839)).setCell ⟨gb847, 1, none⟩ (.slice Ao26 t840.length co26)).setCell ⟨gb847, 2, none⟩ (.slice Ao27 t843.length co27)) = w39 at n0_ n1_ n2_ n3_ n4_ n5_ n6_ ⊢
      have HO835 := n0_
      have HO838 := n1_
      have HO842 := n2_
      have HO845 := n3_
      have BK846 := n4_
      have BK847 := n5_
      have HB := n6_
      clear n0_ n1_ n2_ n3_ n4_ n5_ n6_
      have n0_ := Aside0.mk (Kd.R_drew HO835.out)
      have n1_ := Aside0.mk (Kd.R_drew HO838.out)
      have n2_ := Aside0.mk (Kd.R_drew HO842.out)
      have n3_ := Aside0.mk (Kd.R_drew HO845.out)
      have n4_ := Aside0.mk (blk_drew BK846.out)
      have n5_ := Aside0.mk (blk_drew BK847.out)
      have n6_ := Aside0.mk (below_drew1 HB.out)
      clear HO835
      clear HO838
      clear HO842
      clear HO845
      clear BK846
      clear BK847
      clear HB
      have HO835 := n0_
      have HO838 := n1_
      have HO842 := n2_
      have HO845 := n3_
      have BK846 := n4_
      have BK847 := n5_
      have HB := n6_
      clear n0_ n1_ n2_ n3_ n4_ n5_ n6_
      refine start_ (n := 14) (S := fun w' => w'.cell? ⟨gb846, 0, none⟩ = some (.bool t832) ∧ w'.cell? ⟨gb846, 1, none⟩ = some (.slice Ao23 t833.length co23) ∧ w'.cell? ⟨gb846, 2, none⟩ = some (.slice Ao24 t836.length co24) ∧ w'.cell? ⟨gb847, 0, none⟩ = some (.bool t839) ∧ w'.cell? ⟨gb847, 1, none⟩ = some (.slice Ao26 t840.length co26) ∧ w'.cell? ⟨gb847, 2, none⟩ = some (.slice Ao27 t843.length co27)) (ds := []) #[false, false, false, false, false, false, false, false, false, false, false, false, false, false] (by kernel_rfl) rfl rfl ⟨(blk_cell BK846.out 0).trans rfl, (blk_cell BK846.out 1).trans rfl, (blk_cell BK846.out 2).trans rfl, (blk_cell BK847.out 0).trans rfl, (blk_cell BK847.out 1).trans rfl, (blk_cell BK847.out 2).trans rfl⟩ (fun hHeld => ?_); refine with_tabW gradinelaw11_FsumExact.tab4 gradinelaw11_FsumExact.bits4 (fun HT_ HW_ => ?_)
      generalize w39.drew = w40 at HO835 HO838 HO842 HO845 BK846 BK847 HB hHeld ⊢
      refine take_ (i := 0) (N := some 29) (v := ?_) (a' := ?_) #[true, false, false, false, false, false, false, false, false, false, false, false, false, false] rfl rfl (take_ofW HT_.out HW_.out (by kernel_rfl)) (fun _ _ _ h => h) (Or.inl ⟨by rfl, ?_⟩) hHeld ?_ ?_
      rotate_left
      ·rintro w' ⟨s0, s1, s2, s3, s4, s5⟩
       go_simp
       with_reducible rfl
      rotate_left
      ·simp only [Act.put, List.setIfInBounds_toArray, List.set_cons_zero, List.set_cons_succ, i64_w, i32_w]
       rfl
      refine take_ (i := 1) (N := some 30) (v := ?_) (a' := ?_) #[true, true, false, false, false, false, false, false, false, false, false, false, false, false] rfl rfl (take_ofW HT_.out HW_.out (by kernel_rfl)) (fun _ _ _ h => h) (Or.inl ⟨by rfl, ?_⟩) hHeld ?_ ?_
      rotate_left
      ·rintro w' ⟨s0, s1, s2, s3, s4, s5⟩
       go_simp
       with_reducible rfl
      rotate_left
      ·simp only [Act.put, List.setIfInBounds_toArray, List.set_cons_zero, List.set_cons_succ, i64_w, i32_w]
       rfl
      refine take_ (i := 2) (N := some 31) (v := ?_) (a' := ?_) #[true, true, true, false, false, false, false, false, false, false, false, false, false, false] rfl rfl (take_ofW HT_.out HW_.out (by kernel_rfl)) (fun _ _ _ h => h) (Or.inl ⟨by rfl, ?_⟩) hHeld ?_ ?_
      rotate_left
      ·rintro w' ⟨s0, s1, s2, s3, s4, s5⟩
       go_simp
       with_reducible rfl
      rotate_left
      ·simp only [Act.put, List.setIfInBounds_toArray, List.set_cons_zero, List.set_cons_succ, i64_w, i32_w]
       rfl
      refine one_ (i := 3) (N := some 32) #[true, true, true, true, false, false, false, false, false, false, false, false, false, false] rfl rfl (one_of HT_.out (by kernel_rfl)) (by decide) (fun K hK => ?_)
      refine goes_ Try.func60 (by kernel_rfl) rfl #[.agg #[.bool t839, .slice Ao26 t840.length co26, .slice Ao27 t843.length co27], .agg #[.bool t839, .slice Ao26 t840.length co26, .slice Ao27 t843.length co27]] (by rfl) rfl rfl (by (try simp only [List.map_toArray, List.map_cons, List.map_nil]); first | done | rfl | (simp only [List.length_drop, List.length_take]; rfl) | (simp only [*]; done)) ?_
      with_reducible refine (gradineref07_Add.calls kj2 t839 _ _ t840 _ _ t843 t839 _ _ t840 _ _ t843 t848 t849 t852 _ ?side1 ?side2 ?side3 ?side4 ?side5 ?side6 ?side7 ?side8 A28.out).mono ?_
      (case side1 => exact cs (Kd.R_reads' HO842.out).2.2)
      (case side2 => exact (Kd.R_reads' HO842.out).2.1)
      (case side3 => exact cs (Kd.R_reads' HO845.out).2.2)
      (case side4 => exact (Kd.R_reads' HO845.out).2.1)
      (case side5 => exact cs (Kd.R_reads' HO842.out).2.2)
      (case side6 => exact (Kd.R_reads' HO842.out).2.1)
      (case side7 => exact cs (Kd.R_reads' HO845.out).2.2)
      (case side8 => exact (Kd.R_reads' HO845.out).2.1)
      rintro e w41 ⟨v850, v853, rfl, ho0, ho1, hb⟩
      refine ⟨_, rfl, ?_⟩
      have n0_ := Aside0.mk (Kd.R_mono (Kd.R_told (Kd.R_told (Kd.R_old (st HO835.out) hb) (Kd.R_base ho0)) (Kd.R_base ho1)) (fun _ h_ => h_.1))
      have n1_ := Aside0.mk (Kd.R_mono (Kd.R_told (Kd.R_told (Kd.R_old (st HO838.out) hb) (Kd.R_base ho0)) (Kd.R_base ho1)) (fun _ h_ => h_.1))
      have n2_ := Aside0.mk (Kd.R_mono (Kd.R_told (Kd.R_told (Kd.R_old (st HO842.out) hb) (Kd.R_base ho0)) (Kd.R_base ho1)) (fun _ h_ => h_.1))
      have n3_ := Aside0.mk (Kd.R_mono (Kd.R_told (Kd.R_told (Kd.R_old (st HO845.out) hb) (Kd.R_base ho0)) (Kd.R_base ho1)) (fun _ h_ => h_.1))
      have n4_ := Aside0.mk (Kd.R_lower (Kd.R_new' (Kd.R_new' (Kd.R_new' (Kd.R_new' ho0 (Kd.R_lt (st HO835.out))) (Kd.R_lt (st HO838.out))) (Kd.R_lt (st HO842.out))) (Kd.R_lt (st HO845.out))) (below_size (by repeat (first | (with_reducible first | exact HB.out | apply below_alloc | apply pw_below_drewN | apply below_drew1 | refine below_set ?_ GE846.out | refine below_set ?_ GE847.out) | exact HB.out))))
      have n5_ := Aside0.mk (Kd.R_lower (Kd.R_new' (Kd.R_new' (Kd.R_new' (Kd.R_new' ho1 (Kd.R_lt (st HO835.out))) (Kd.R_lt (st HO838.out))) (Kd.R_lt (st HO842.out))) (Kd.R_lt (st HO845.out))) (below_size (by repeat (first | (with_reducible first | exact HB.out | apply below_alloc | apply pw_below_drewN | apply below_drew1 | refine below_set ?_ GE846.out | refine below_set ?_ GE847.out) | exact HB.out))))
      have n6_ := Aside0.mk (blk_below (bk BK846.out) hb)
      have n7_ := Aside0.mk (blk_below (bk BK847.out) hb)
      have n8_ := Aside0.mk (below_step (by repeat (first | (with_reducible first | exact HB.out | apply below_alloc | apply pw_below_drewN | apply below_drew1 | refine below_set ?_ GE846.out | refine below_set ?_ GE847.out) | exact HB.out)) hb)
      clear HO835
      clear HO838
      clear HO842
      clear HO845
      clear BK846
      clear BK847
      clear HB
      have HO835 := n0_
      have HO838 := n1_
      have HO842 := n2_
      have HO845 := n3_
      have HO851 := n4_
      have HO854 := n5_
      have BK846 := n6_
      have BK847 := n7_
      have HB := n8_
      clear n0_ n1_ n2_ n3_ n4_ n5_ n6_ n7_ n8_
      (try clear hb)
      (try clear hb2)
      (try clear hk)
      (try clear hi)
      (try clear ho0)
      (try clear ho1)
      obtain ⟨Ao42, co42, eo42⟩ := Kd.R_slice HO851.out
      (first | subst eo42 | (injection eo42 with f1_ f2_ f3_; have f4_ := f1_.symm; have f5_ := f3_.symm; clear f1_ f2_ f3_; subst f4_; subst f5_))
      obtain ⟨Ao43, co43, eo43⟩ := Kd.R_slice HO854.out
      (first | subst eo43 | (injection eo43 with f1_ f2_ f3_; have f4_ := f1_.symm; have f5_ := f3_.symm; clear f1_ f2_ f3_; subst f4_; subst f5_))
      refine hK.out _ _ ⟨(blk_cell BK846.out 0).trans rfl, (blk_cell BK846.out 1).trans rfl, (blk_cell BK846.out 2).trans rfl, (blk_cell BK847.out 0).trans rfl, (blk_cell BK847.out 1).trans rfl, (blk_cell BK847.out 2).trans rfl⟩ (fun hHeld => ?_)
      clear hK K
      refine norm_ (a' := ?_) ?_ ?_
      rotate_left
      ·show Act.put _ (some 32) _ = _
       simp only [Act.put, List.setIfInBounds_toArray, List.set_cons_zero, List.set_cons_succ, i64_w, i32_w]
       rfl
      refine one_ (i := 4) (N := some 33) #[true, true, true, true, true, false, false, false, false, false, false, false, false, false] rfl rfl (one_of HT_.out (by kernel_rfl)) (by decide) (fun K hK => ?_)
      refine goes_ Try.func29 (by kernel_rfl) rfl #[.agg #[.bool t832, .slice Ao23 t833.length co23, .slice Ao24 t836.length co24], .agg #[.bool t848, .slice Ao42 t849.length co42, .slice Ao43 t852.length co43]] (by rfl) rfl rfl (by (try simp only [List.map_toArray, List.map_cons, List.map_nil]); first | done | rfl | (simp only [List.length_drop, List.length_take]; rfl) | (simp only [*]; done)) ?_
      with_reducible refine (gradineref07_Cmp.calls kj2 t832 _ _ t833 _ _ t836 t848 _ _ t849 _ _ t852 t855 _ ?side1 ?side2 ?side3 ?side4 ?side5 ?side6 ?side7 ?side8 A29.out).mono ?_
      (case side1 => exact cs (Kd.R_reads' HO835.out).2.2)
      (case side2 => exact (Kd.R_reads' HO835.out).2.1)
      (case side3 => exact cs (Kd.R_reads' HO838.out).2.2)
      (case side4 => exact (Kd.R_reads' HO838.out).2.1)
      (case side5 => exact cs (Kd.R_reads' HO851.out).2.2)
      (case side6 => exact (Kd.R_reads' HO851.out).2.1)
      (case side7 => exact cs (Kd.R_reads' HO854.out).2.2)
      (case side8 => exact (Kd.R_reads' HO854.out).2.1)
      rintro e w44 ⟨rfl, hb⟩
      refine ⟨_, rfl, ?_⟩
      have n0_ := Aside0.mk (Kd.R_below (st HO835.out) hb)
      have n1_ := Aside0.mk (Kd.R_below (st HO838.out) hb)
      have n2_ := Aside0.mk (Kd.R_below (st HO842.out) hb)
      have n3_ := Aside0.mk (Kd.R_below (st HO845.out) hb)
      have n4_ := Aside0.mk (Kd.R_below (st HO851.out) hb)
      have n5_ := Aside0.mk (Kd.R_below (st HO854.out) hb)
      have n6_ := Aside0.mk (blk_below (bk BK846.out) hb)
      have n7_ := Aside0.mk (blk_below (bk BK847.out) hb)
      have n8_ := Aside0.mk (below_step (by repeat (first | (with_reducible first | exact HB.out | apply below_alloc | apply pw_below_drewN | apply below_drew1 | refine below_set ?_ GE846.out | refine below_set ?_ GE847.out) | exact HB.out)) hb)
      clear HO835
      clear HO838
      clear HO842
      clear HO845
      clear HO851
      clear HO854
      clear BK846
      clear BK847
      clear HB
      have HO835 := n0_
      have HO838 := n1_
      have HO842 := n2_
      have HO845 := n3_
      have HO851 := n4_
      have HO854 := n5_
      have BK846 := n6_
      have BK847 := n7_
      have HB := n8_
      clear n0_ n1_ n2_ n3_ n4_ n5_ n6_ n7_ n8_
      (try clear hb)
      (try clear hb2)
      (try clear hk)
      (try clear hi)
      refine hK.out _ _ ⟨(blk_cell BK846.out 0).trans rfl, (blk_cell BK846.out 1).trans rfl, (blk_cell BK846.out 2).trans rfl, (blk_cell BK847.out 0).trans rfl, (blk_cell BK847.out 1).trans rfl, (blk_cell BK847.out 2).trans rfl⟩ (fun hHeld => ?_)
      clear hK K
      refine norm_ (a' := ?_) ?_ ?_
      rotate_left
      ·show Act.put _ (some 33) _ = _
       simp only [Act.put, List.setIfInBounds_toArray, List.set_cons_zero, List.set_cons_succ, i64_w, i32_w]
       rfl
      refine pure_ (i := 5) (N := some 34) (v := ?_) (a' := ?_) #[true, true, true, true, true, true, false, false, false, false, false, false, false, false] rfl rfl (any_of HT_.out (by kernel_rfl)) (fun _ _ _ h => h) (Or.inl ⟨by rfl, ?_⟩) ?_ ?_
      rotate_left
      ·intro w'
       go_simp
       with_reducible rfl
      rotate_left
      ·simp only [Act.put, List.setIfInBounds_toArray, List.set_cons_zero, List.set_cons_succ, i64_w, i32_w]
       rfl
      refine pure_ (i := 6) (N := some 35) (v := ?_) (a' := ?_) #[true, true, true, true, true, true, true, false, false, false, false, false, false, false] rfl rfl (any_of HT_.out (by kernel_rfl)) (fun _ _ _ h => h) (Or.inl ⟨by rfl, ?_⟩) ?_ ?_
      rotate_left
      ·intro w'
       go_simp
       with_reducible rfl
      rotate_left
      ·simp only [Act.put, List.setIfInBounds_toArray, List.set_cons_zero, List.set_cons_succ, i64_w, i32_w]
       rfl
      refine take_ (i := 7) (N := some 36) (v := ?_) (a' := ?_) #[true, true, true, true, true, true, true, true, false, false, false, false, false, false] rfl rfl (take_ofW HT_.out HW_.out (by kernel_rfl)) (fun _ _ _ h => h) (Or.inl ⟨by rfl, ?_⟩) hHeld ?_ ?_
      rotate_left
      ·rintro w' ⟨s0, s1, s2, s3, s4, s5⟩
       go_simp
       with_reducible rfl
      rotate_left
      ·simp only [Act.put, List.setIfInBounds_toArray, List.set_cons_zero, List.set_cons_succ, i64_w, i32_w]
       rfl
      refine take_ (i := 8) (N := some 37) (v := ?_) (a' := ?_) #[true, true, true, true, true, true, true, true, true, false, false, false, false, false] rfl rfl (take_ofW HT_.out HW_.out (by kernel_rfl)) (fun _ _ _ h => h) (Or.inl ⟨by rfl, ?_⟩) hHeld ?_ ?_
      rotate_left
      ·rintro w' ⟨s0, s1, s2, s3, s4, s5⟩
       go_simp
       with_reducible rfl
      rotate_left
      ·simp only [Act.put, List.setIfInBounds_toArray, List.set_cons_zero, List.set_cons_succ, i64_w, i32_w]
       rfl
      refine take_ (i := 9) (N := some 38) (v := ?_) (a' := ?_) #[true, true, true, true, true, true, true, true, true, true, false, false, false, false] rfl rfl (take_ofW HT_.out HW_.out (by kernel_rfl)) (fun _ _ _ h => h) (Or.inl ⟨by rfl, ?_⟩) hHeld ?_ ?_
      rotate_left
      ·rintro w' ⟨s0, s1, s2, s3, s4, s5⟩
       go_simp
       with_reducible rfl
      rotate_left
      ·simp only [Act.put, List.setIfInBounds_toArray, List.set_cons_zero, List.set_cons_succ, i64_w, i32_w]
       rfl
      refine one_ (i := 10) (N := some 39) #[true, true, true, true, true, true, true, true, true, true, true, false, false, false] rfl rfl (one_of HT_.out (by kernel_rfl)) (by decide) (fun K hK => ?_)
      refine goes_ Try.func60 (by kernel_rfl) rfl #[.agg #[.bool t832, .slice Ao23 t833.length co23, .slice Ao24 t836.length co24], .agg #[.bool t832, .slice Ao23 t833.length co23, .slice Ao24 t836.length co24]] (by rfl) rfl rfl (by (try simp only [List.map_toArray, List.map_cons, List.map_nil]); first | done | rfl | (simp only [List.length_drop, List.length_take]; rfl) | (simp only [*]; done)) ?_
      with_reducible refine (gradineref07_Add.calls kj2 t832 _ _ t833 _ _ t836 t832 _ _ t833 _ _ t836 t856 t857 t860 _ ?side1 ?side2 ?side3 ?side4 ?side5 ?side6 ?side7 ?side8 A37.out).mono ?_
      (case side1 => exact cs (Kd.R_reads' HO835.out).2.2)
      (case side2 => exact (Kd.R_reads' HO835.out).2.1)
      (case side3 => exact cs (Kd.R_reads' HO838.out).2.2)
      (case side4 => exact (Kd.R_reads' HO838.out).2.1)
      (case side5 => exact cs (Kd.R_reads' HO835.out).2.2)
      (case side6 => exact (Kd.R_reads' HO835.out).2.1)
      (case side7 => exact cs (Kd.R_reads' HO838.out).2.2)
      (case side8 => exact (Kd.R_reads' HO838.out).2.1)
      rintro e w45 ⟨v858, v861, rfl, ho0, ho1, hb⟩
      refine ⟨_, rfl, ?_⟩
      have n0_ := Aside0.mk (Kd.R_mono (Kd.R_told (Kd.R_told (Kd.R_old (st HO835.out) hb) (Kd.R_base ho0)) (Kd.R_base ho1)) (fun _ h_ => h_.1))
      have n1_ := Aside0.mk (Kd.R_mono (Kd.R_told (Kd.R_told (Kd.R_old (st HO838.out) hb) (Kd.R_base ho0)) (Kd.R_base ho1)) (fun _ h_ => h_.1))
      have n2_ := Aside0.mk (Kd.R_mono (Kd.R_told (Kd.R_told (Kd.R_old (st HO842.out) hb) (Kd.R_base ho0)) (Kd.R_base ho1)) (fun _ h_ => h_.1))
      have n3_ := Aside0.mk (Kd.R_mono (Kd.R_told (Kd.R_told (Kd.R_old (st HO845.out) hb) (Kd.R_base ho0)) (Kd.R_base ho1)) (fun _ h_ => h_.1))
      have n4_ := Aside0.mk (Kd.R_mono (Kd.R_told (Kd.R_told (Kd.R_old (st HO851.out) hb) (Kd.R_base ho0)) (Kd.R_base ho1)) (fun _ h_ => h_.1))
      have n5_ := Aside0.mk (Kd.R_mono (Kd.R_told (Kd.R_told (Kd.R_old (st HO854.out) hb) (Kd.R_base ho0)) (Kd.R_base ho1)) (fun _ h_ => h_.1))
      have n6_ := Aside0.mk (Kd.R_lower (Kd.R_new' (Kd.R_new' (Kd.R_new' (Kd.R_new' (Kd.R_new' (Kd.R_new' ho0 (Kd.R_lt (st HO835.out))) (Kd.R_lt (st HO838.out))) (Kd.R_lt (st HO842.out))) (Kd.R_lt (st HO845.out))) (Kd.R_lt (st HO851.out))) (Kd.R_lt (st HO854.out))) (below_size (by repeat (first | (with_reducible first | exact HB.out | apply below_alloc | apply pw_below_drewN | apply below_drew1 | refine below_set ?_ GE846.out | refine below_set ?_ GE847.out) | exact HB.out))))
      have n7_ := Aside0.mk (Kd.R_lower (Kd.R_new' (Kd.R_new' (Kd.R_new' (Kd.R_new' (Kd.R_new' (Kd.R_new' ho1 (Kd.R_lt (st HO835.out))) (Kd.R_lt (st HO838.out))) (Kd.R_lt (st HO842.out))) (Kd.R_lt (st HO845.out))) (Kd.R_lt (st HO851.out))) (Kd.R_lt (st HO854.out))) (below_size (by repeat (first | (with_reducible first | exact HB.out | apply below_alloc | apply pw_below_drewN | apply below_drew1 | refine below_set ?_ GE846.out | refine below_set ?_ GE847.out) | exact HB.out))))
      have n8_ := Aside0.mk (blk_below (bk BK846.out) hb)
      have n9_ := Aside0.mk (blk_below (bk BK847.out) hb)
      have n10_ := Aside0.mk (below_step (by repeat (first | (with_reducible first | exact HB.out | apply below_alloc | apply pw_below_drewN | apply below_drew1 | refine below_set ?_ GE846.out | refine below_set ?_ GE847.out) | exact HB.out)) hb)
      clear HO835
      clear HO838
      clear HO842
      clear HO845
      clear HO851
      clear HO854
      clear BK846
      clear BK847
      clear HB
      have HO835 := n0_
      have HO838 := n1_
      have HO842 := n2_
      have HO845 := n3_
      have HO851 := n4_
      have HO854 := n5_
      have HO859 := n6_
      have HO862 := n7_
      have BK846 := n8_
      have BK847 := n9_
      have HB := n10_
      clear n0_ n1_ n2_ n3_ n4_ n5_ n6_ n7_ n8_ n9_ n10_
      (try clear hb)
      (try clear hb2)
      (try clear hk)
      (try clear hi)
      (try clear ho0)
      (try clear ho1)
      obtain ⟨Ao46, co46, eo46⟩ := Kd.R_slice HO859.out
      (first | subst eo46 | (injection eo46 with f1_ f2_ f3_; have f4_ := f1_.symm; have f5_ := f3_.symm; clear f1_ f2_ f3_; subst f4_; subst f5_))
      obtain ⟨Ao47, co47, eo47⟩ := Kd.R_slice HO862.out
      (first | subst eo47 | (injection eo47 with f1_ f2_ f3_; have f4_ := f1_.symm; have f5_ := f3_.symm; clear f1_ f2_ f3_; subst f4_; subst f5_))
      refine hK.out _ _ ⟨(blk_cell BK846.out 0).trans rfl, (blk_cell BK846.out 1).trans rfl, (blk_cell BK846.out 2).trans rfl, (blk_cell BK847.out 0).trans rfl, (blk_cell BK847.out 1).trans rfl, (blk_cell BK847.out 2).trans rfl⟩ (fun hHeld => ?_)
      clear hK K
      refine norm_ (a' := ?_) ?_ ?_
      rotate_left
      ·show Act.put _ (some 39) _ = _
       simp only [Act.put, List.setIfInBounds_toArray, List.set_cons_zero, List.set_cons_succ, i64_w, i32_w]
       rfl
      refine one_ (i := 11) (N := some 40) #[true, true, true, true, true, true, true, true, true, true, true, true, false, false] rfl rfl (one_of HT_.out (by kernel_rfl)) (by decide) (fun K hK => ?_)
      refine goes_ Try.func29 (by kernel_rfl) rfl #[.agg #[.bool t839, .slice Ao26 t840.length co26, .slice Ao27 t843.length co27], .agg #[.bool t856, .slice Ao46 t857.length co46, .slice Ao47 t860.length co47]] (by rfl) rfl rfl (by (try simp only [List.map_toArray, List.map_cons, List.map_nil]); first | done | rfl | (simp only [List.length_drop, List.length_take]; rfl) | (simp only [*]; done)) ?_
      with_reducible refine (gradineref07_Cmp.calls kj2 t839 _ _ t840 _ _ t843 t856 _ _ t857 _ _ t860 t863 _ ?side1 ?side2 ?side3 ?side4 ?side5 ?side6 ?side7 ?side8 A38.out).mono ?_
      (case side1 => exact cs (Kd.R_reads' HO842.out).2.2)
      (case side2 => exact (Kd.R_reads' HO842.out).2.1)
      (case side3 => exact cs (Kd.R_reads' HO845.out).2.2)
      (case side4 => exact (Kd.R_reads' HO845.out).2.1)
      (case side5 => exact cs (Kd.R_reads' HO859.out).2.2)
      (case side6 => exact (Kd.R_reads' HO859.out).2.1)
      (case side7 => exact cs (Kd.R_reads' HO862.out).2.2)
      (case side8 => exact (Kd.R_reads' HO862.out).2.1)
      rintro e w48 ⟨rfl, hb⟩
      refine ⟨_, rfl, ?_⟩
      have n0_ := Aside0.mk (Kd.R_below (st HO835.out) hb)
      have n1_ := Aside0.mk (Kd.R_below (st HO838.out) hb)
      have n2_ := Aside0.mk (Kd.R_below (st HO842.out) hb)
      have n3_ := Aside0.mk (Kd.R_below (st HO845.out) hb)
      have n4_ := Aside0.mk (Kd.R_below (st HO851.out) hb)
      have n5_ := Aside0.mk (Kd.R_below (st HO854.out) hb)
      have n6_ := Aside0.mk (Kd.R_below (st HO859.out) hb)
      have n7_ := Aside0.mk (Kd.R_below (st HO862.out) hb)
      have n8_ := Aside0.mk (blk_below (bk BK846.out) hb)
      have n9_ := Aside0.mk (blk_below (bk BK847.out) hb)
      have n10_ := Aside0.mk (below_step (by repeat (first | (with_reducible first | exact HB.out | apply below_alloc | apply pw_below_drewN | apply below_drew1 | refine below_set ?_ GE846.out | refine below_set ?_ GE847.out) | exact HB.out)) hb)
      clear HO835
      clear HO838
      clear HO842
      clear HO845
      clear HO851
      clear HO854
      clear HO859
      clear HO862
      clear BK846
      clear BK847
      clear HB
      have HO835 := n0_
      have HO838 := n1_
      have HO842 := n2_
      have HO845 := n3_
      have HO851 := n4_
      have HO854 := n5_
      have HO859 := n6_
      have HO862 := n7_
      have BK846 := n8_
      have BK847 := n9_
      have HB := n10_
      clear n0_ n1_ n2_ n3_ n4_ n5_ n6_ n7_ n8_ n9_ n10_
      (try clear hb)
      (try clear hb2)
      (try clear hk)
      (try clear hi)
      refine hK.out _ _ ⟨(blk_cell BK846.out 0).trans rfl, (blk_cell BK846.out 1).trans rfl, (blk_cell BK846.out 2).trans rfl, (blk_cell BK847.out 0).trans rfl, (blk_cell BK847.out 1).trans rfl, (blk_cell BK847.out 2).trans rfl⟩ (fun hHeld => ?_)
      clear hK K
      refine norm_ (a' := ?_) ?_ ?_
      rotate_left
      ·show Act.put _ (some 40) _ = _
       simp only [Act.put, List.setIfInBounds_toArray, List.set_cons_zero, List.set_cons_succ, i64_w, i32_w]
       rfl
      refine pure_ (i := 12) (N := some 41) (v := ?_) (a' := ?_) #[true, true, true, true, true, true, true, true, true, true, true, true, true, false] rfl rfl (any_of HT_.out (by kernel_rfl)) (fun _ _ _ h => h) (Or.inl ⟨by rfl, ?_⟩) ?_ ?_
      rotate_left
      ·intro w'
       go_simp
       with_reducible rfl
      rotate_left
      ·simp only [Act.put, List.setIfInBounds_toArray, List.set_cons_zero, List.set_cons_succ, i64_w, i32_w]
       rfl
      refine pure_ (i := 13) (N := some 42) (v := ?_) (a' := ?_) #[true, true, true, true, true, true, true, true, true, true, true, true, true, true] rfl rfl (any_of HT_.out (by kernel_rfl)) (fun _ _ _ h => h) (Or.inl ⟨by rfl, ?_⟩) ?_ ?_
      rotate_left
      ·intro w'
       go_simp
       with_reducible rfl
      rotate_left
      ·simp only [Act.put, List.setIfInBounds_toArray, List.set_cons_zero, List.set_cons_succ, i64_w, i32_w]
       rfl
      refine done_ (done_of HT_.out (by kernel_rfl)) ?_
      try go_wp2
      go_meet
      case rel => exact ⟨_, (decide (t863 > 0)), (by first | rfl | (simp; done) | (simp [*]; done)), H', ⟨by have := HJ2.out; first | omega | exact Nat.le_refl _⟩, ⟨by (with_reducible repeat (first | apply Kd.R_alloc | apply Kd.R_drewN | apply Kd.R_drew)); exact Kd.R_mono HO835.out (fun _ hk => ⟨hk.1.1.1.1.1, ⟨hk.1.1.1.1.2.1, hk.1.1.1.1.2.2⟩⟩)⟩, ⟨by (with_reducible repeat (first | apply Kd.R_alloc | apply Kd.R_drewN | apply Kd.R_drew)); exact Kd.R_mono HO838.out (fun _ hk => ⟨hk.1.1.1.1.1, ⟨hk.1.1.1.1.2.1, hk.1.1.1.1.2.2⟩⟩)⟩, ⟨by (with_reducible repeat (first | apply Kd.R_alloc | apply Kd.R_drewN | apply Kd.R_drew)); exact Kd.R_mono HO842.out (fun _ hk => ⟨hk.1.1.1.1.1, ⟨hk.1.1.1.1.2.1, hk.1.1.1.1.2.2⟩⟩)⟩, ⟨by (with_reducible repeat (first | apply Kd.R_alloc | apply Kd.R_drewN | apply Kd.R_drew)); exact Kd.R_mono HO845.out (fun _ hk => ⟨hk.1.1.1.1.1, ⟨hk.1.1.1.1.2.1, hk.1.1.1.1.2.2⟩⟩)⟩, ⟨by (with_reducible repeat (first | refine blk_drewN ?_ _ | refine blk_drew ?_ | refine blk_alloc ?_ _)); exact BK846.out⟩, ⟨by (with_reducible repeat (first | refine blk_drewN ?_ _ | refine blk_drew ?_ | refine blk_alloc ?_ _)); exact BK847.out⟩, ⟨by repeat (first | (with_reducible first | exact HB.out | apply below_alloc | apply pw_below_drewN | apply below_drew1 | refine below_set ?_ GE846.out | refine below_set ?_ GE847.out) | exact HB.out)⟩⟩
    case rest =>
     clear HC16
     try clear c2
     try clear p2
     try clear c3
     try clear c6
     try clear c29
     try clear c30
     try clear c30b0
     obtain ⟨kq, x42_15, rfl, HA, HJ15, HO_847001, HO_847002, HO_848001, HO_848002, BK846, BK847, HB⟩ := hcut
     cases kq with
     | zero => exact absurd HA.out (by simp [gradinelaw11_FsumExact.j1])
     | succ kj15 =>
      have H := HA.out
      clear HA
      simp only [gradinelaw11_FsumExact.j1] at H
      by_cases c49 : x42_15 = true
      ·subst c49
       have H1 : ((gradinelaw11_same.f kj15).bind fun t864 => (some t864)) = some r := by rw [if_pos rfl] at H; exact H
       clear H
       have H := H1
       clear H1
       replace H := Option.bind_eq_some_iff.mp H
       obtain ⟨t864, A500, H⟩ := H
       replace H : (some t864) = some r := H
       have A50 := Aside0.mk A500
       clear A500
       obtain rfl := Option.some.inj H
       go_wp2_with (first | ((with_reducible refine gate_callee (f := 59) rfl ?_); refine goesL_ (some 43) rfl rfl Try.func59 (by kernel_rfl) rfl #[] rfl (by (try simp only [List.map_toArray, List.map_cons, List.map_nil]); first | done | rfl | (simp only [List.length_drop, List.length_take]; rfl) | (simp only [*]; done)) ?_; (with_reducible refine (gradinelaw11_same.calls kj15  t864 _ A50.out).mono ?_); rintro e w51 ⟨rfl, hb⟩; refine ⟨_, rfl, ?_⟩; have n0_ := Aside0.mk (Kd.R_below (st HO_847001.out) hb); have n1_ := Aside0.mk (Kd.R_below (st HO_847002.out) hb); have n2_ := Aside0.mk (Kd.R_below (st HO_848001.out) hb); have n3_ := Aside0.mk (Kd.R_below (st HO_848002.out) hb); have n4_ := Aside0.mk (blk_below (bk BK846.out) hb); have n5_ := Aside0.mk (blk_below (bk BK847.out) hb); have n6_ := Aside0.mk (below_step (by repeat (first | (with_reducible first | exact HB.out | apply below_alloc | apply pw_below_drewN | apply below_drew1 | refine below_set ?_ GE846.out | refine below_set ?_ GE847.out) | exact HB.out)) hb); clear HO_847001; clear HO_847002; clear HO_848001; clear HO_848002; clear BK846; clear BK847; clear HB; have HO_847001 := n0_; have HO_847002 := n1_; have HO_848001 := n2_; have HO_848002 := n3_; have BK846 := n4_; have BK847 := n5_; have HB := n6_; clear n0_ n1_ n2_ n3_ n4_ n5_ n6_; (try clear hb); (try clear hb2); (try clear hk); (try clear hi)))
       go_ret
       exact ⟨by first | rfl | (simp [errW_none, errW_some] <;> rfl) | (simp [*, errW_none, errW_some] <;> rfl), by repeat (first | (with_reducible first | exact HB.out | apply below_alloc | apply pw_below_drewN | apply below_drew1 | refine below_set ?_ GE846.out | refine below_set ?_ GE847.out) | exact HB.out)⟩
      ·replace c49 := Bool.eq_false_iff.mpr c49
       subst c49
       have H1 : ((fsum_Sub.f kj15 a0 a1).bind fun t865 => ((gradineref09_Finite.f t865).bind fun t866 => (if t866 = true then ((gradineref10_ToRat.f kj15 t865).bind fun bt867 => ((gradineref07_Sub.f kj15 t832 t833 t836 t839 t840 t843).bind fun bt874 => ((gradineref07_Same.f kj15 bt867.1 bt867.2.1 bt867.2.2 bt874.1 bt874.2.1 bt874.2.2).bind fun t881 => (if t881 = true then ((gradinelaw11_same.f kj15).bind fun t882 => (some t882)) else (some false))))) else (some false)))) = some r := by rw [if_neg (show ¬ (false = true) by decide)] at H; exact H
       clear H
       have H := H1
       clear H1
       replace H := Option.bind_eq_some_iff.mp H
       obtain ⟨t865, A520, H⟩ := H
       replace H : ((gradineref09_Finite.f t865).bind fun t866 => (if t866 = true then ((gradineref10_ToRat.f kj15 t865).bind fun bt867 => ((gradineref07_Sub.f kj15 t832 t833 t836 t839 t840 t843).bind fun bt874 => ((gradineref07_Same.f kj15 bt867.1 bt867.2.1 bt867.2.2 bt874.1 bt874.2.1 bt874.2.2).bind fun t881 => (if t881 = true then ((gradinelaw11_same.f kj15).bind fun t882 => (some t882)) else (some false))))) else (some false))) = some r := H
       have A52 := Aside0.mk A520
       clear A520
       replace H := Option.bind_eq_some_iff.mp H
       obtain ⟨t866, A530, H⟩ := H
       replace H : (if t866 = true then ((gradineref10_ToRat.f kj15 t865).bind fun bt867 => ((gradineref07_Sub.f kj15 t832 t833 t836 t839 t840 t843).bind fun bt874 => ((gradineref07_Same.f kj15 bt867.1 bt867.2.1 bt867.2.2 bt874.1 bt874.2.1 bt874.2.2).bind fun t881 => (if t881 = true then ((gradinelaw11_same.f kj15).bind fun t882 => (some t882)) else (some false))))) else (some false)) = some r := H
       have A53 := Aside0.mk A530
       clear A530
       by_cases c54 : t866 = true
       ·subst c54
        have H1 : ((gradineref10_ToRat.f kj15 t865).bind fun bt867 => ((gradineref07_Sub.f kj15 t832 t833 t836 t839 t840 t843).bind fun bt874 => ((gradineref07_Same.f kj15 bt867.1 bt867.2.1 bt867.2.2 bt874.1 bt874.2.1 bt874.2.2).bind fun t881 => (if t881 = true then ((gradinelaw11_same.f kj15).bind fun t882 => (some t882)) else (some false))))) = some r := by rw [if_pos rfl] at H; exact H
        clear H
        have H := H1
        clear H1
        replace H := Option.bind_eq_some_iff.mp H
        obtain ⟨⟨t867, t868, t871⟩, A550, H⟩ := H
        replace H : ((gradineref07_Sub.f kj15 t832 t833 t836 t839 t840 t843).bind fun bt874 => ((gradineref07_Same.f kj15 t867 t868 t871 bt874.1 bt874.2.1 bt874.2.2).bind fun t881 => (if t881 = true then ((gradinelaw11_same.f kj15).bind fun t882 => (some t882)) else (some false)))) = some r := H
        have A55 := Aside0.mk A550
        clear A550
        replace H := Option.bind_eq_some_iff.mp H
        obtain ⟨⟨t874, t875, t878⟩, A560, H⟩ := H
        replace H : ((gradineref07_Same.f kj15 t867 t868 t871 t874 t875 t878).bind fun t881 => (if t881 = true then ((gradinelaw11_same.f kj15).bind fun t882 => (some t882)) else (some false))) = some r := H
        have A56 := Aside0.mk A560
        clear A560
        replace H := Option.bind_eq_some_iff.mp H
        obtain ⟨t881, A570, H⟩ := H
        replace H : (if t881 = true then ((gradinelaw11_same.f kj15).bind fun t882 => (some t882)) else (some false)) = some r := H
        have A57 := Aside0.mk A570
        clear A570
        by_cases c58 : t881 = true
        ·subst c58
         have H1 : ((gradinelaw11_same.f kj15).bind fun t882 => (some t882)) = some r := by rw [if_pos rfl] at H; exact H
         clear H
         have H := H1
         clear H1
         replace H := Option.bind_eq_some_iff.mp H
         obtain ⟨t882, A590, H⟩ := H
         replace H : (some t882) = some r := H
         have A59 := Aside0.mk A590
         clear A590
         obtain rfl := Option.some.inj H
         try go_wp2_with (first | ((with_reducible refine gate_callee (f := 57) rfl ?_); refine goesL_ (some 46) rfl rfl Try.func57 (by kernel_rfl) rfl #[.int .u64 a0, .int .u64 a1] rfl (by (try simp only [List.map_toArray, List.map_cons, List.map_nil]); first | done | rfl | (simp only [List.length_drop, List.length_take]; rfl) | (simp only [*]; done)) ?_; (with_reducible refine (fsum_Sub.calls kj15 a0 a1 t865 _ A52.out).mono ?_); rintro e w60 ⟨rfl, hb⟩; refine ⟨_, rfl, ?_⟩; have n0_ := Aside0.mk (Kd.R_below (st HO_847001.out) hb); have n1_ := Aside0.mk (Kd.R_below (st HO_847002.out) hb); have n2_ := Aside0.mk (Kd.R_below (st HO_848001.out) hb); have n3_ := Aside0.mk (Kd.R_below (st HO_848002.out) hb); have n4_ := Aside0.mk (blk_below (bk BK846.out) hb); have n5_ := Aside0.mk (blk_below (bk BK847.out) hb); have n6_ := Aside0.mk (below_step (by repeat (first | (with_reducible first | exact HB.out | apply below_alloc | apply pw_below_drewN | apply below_drew1 | refine below_set ?_ GE846.out | refine below_set ?_ GE847.out) | exact HB.out)) hb); clear HO_847001; clear HO_847002; clear HO_848001; clear HO_848002; clear BK846; clear BK847; clear HB; have HO_847001 := n0_; have HO_847002 := n1_; have HO_848001 := n2_; have HO_848002 := n3_; have BK846 := n4_; have BK847 := n5_; have HB := n6_; clear n0_ n1_ n2_ n3_ n4_ n5_ n6_; (try clear hb); (try clear hb2); (try clear hk); (try clear hi)))
         have n0_ := Aside0.mk (Kd.R_drew HO_847001.out)
         have n1_ := Aside0.mk (Kd.R_drew HO_847002.out)
         have n2_ := Aside0.mk (Kd.R_drew HO_848001.out)
         have n3_ := Aside0.mk (Kd.R_drew HO_848002.out)
         have n4_ := Aside0.mk (blk_drew BK846.out)
         have n5_ := Aside0.mk (blk_drew BK847.out)
         have n6_ := Aside0.mk (below_drew1 HB.out)
         clear HO_847001
         clear HO_847002
         clear HO_848001
         clear HO_848002
         clear BK846
         clear BK847
         clear HB
         have HO_847001 := n0_
         have HO_847002 := n1_
         have HO_848001 := n2_
         have HO_848002 := n3_
         have BK846 := n4_
         have BK847 := n5_
         have HB := n6_
         clear n0_ n1_ n2_ n3_ n4_ n5_ n6_
         refine start_ (n := 14) (S := fun w' => w'.cell? ⟨gb846, 0, none⟩ = some (.bool t832) ∧ w'.cell? ⟨gb846, 1, none⟩ = some (.slice Ao23 t833.length co23) ∧ w'.cell? ⟨gb846, 2, none⟩ = some (.slice Ao24 t836.length co24) ∧ w'.cell? ⟨gb847, 0, none⟩ = some (.bool t839) ∧ w'.cell? ⟨gb847, 1, none⟩ = some (.slice Ao26 t840.length co26) ∧ w'.cell? ⟨gb847, 2, none⟩ = some (.slice Ao27 t843.length co27)) (ds := []) #[false, false, false, false, false, false, false, false, false, false, false, false, false, false] (by kernel_rfl) rfl rfl ⟨(blk_cell BK846.out 0).trans rfl, (blk_cell BK846.out 1).trans rfl, (blk_cell BK846.out 2).trans rfl, (blk_cell BK847.out 0).trans rfl, (blk_cell BK847.out 1).trans rfl, (blk_cell BK847.out 2).trans rfl⟩ (fun hHeld => ?_); refine with_tabW gradinelaw11_FsumExact.tab7 gradinelaw11_FsumExact.bits7 (fun HT_ HW_ => ?_)
         generalize w60.drew = w61 at HO_847001 HO_847002 HO_848001 HO_848002 BK846 BK847 HB hHeld ⊢
         refine pure_ (i := 0) (N := some 47) (v := ?_) (a' := ?_) #[true, false, false, false, false, false, false, false, false, false, false, false, false, false] rfl rfl (any_of HT_.out (by kernel_rfl)) (fun _ _ _ h => h) (Or.inl ⟨by rfl, ?_⟩) ?_ ?_
         rotate_left
         ·intro w'
          go_simp
          with_reducible rfl
         rotate_left
         ·simp only [Act.put, List.setIfInBounds_toArray, List.set_cons_zero, List.set_cons_succ, i64_w, i32_w]
          rfl
         refine one_ (i := 1) (N := some 48) #[true, true, false, false, false, false, false, false, false, false, false, false, false, false] rfl rfl (one_of HT_.out (by kernel_rfl)) (by decide) (fun K hK => ?_)
         refine goes_ Try.func26 (by kernel_rfl) rfl #[.int .u64 t865] (by rfl) rfl rfl (by (try simp only [List.map_toArray, List.map_cons, List.map_nil]); first | done | rfl | (simp only [List.length_drop, List.length_take]; rfl) | (simp only [*]; done)) ?_
         with_reducible refine (gradineref09_Finite.calls t865 true _ A53.out).mono ?_
         rintro e w' ⟨rfl, ⟨nd, rfl⟩⟩
         refine ⟨_, rfl, ?_⟩
         refine hK.out _ _ ⟨(blk_cell BK846.out 0).trans rfl, (blk_cell BK846.out 1).trans rfl, (blk_cell BK846.out 2).trans rfl, (blk_cell BK847.out 0).trans rfl, (blk_cell BK847.out 1).trans rfl, (blk_cell BK847.out 2).trans rfl⟩ (fun hHeld => ?_)
         clear hK K
         refine norm_ (a' := ?_) ?_ ?_
         rotate_left
         ·show Act.put _ (some 48) _ = _
          simp only [Act.put, List.setIfInBounds_toArray, List.set_cons_zero, List.set_cons_succ, i64_w, i32_w]
          rfl
         refine pure_ (i := 2) (N := some 49) (v := ?_) (a' := ?_) #[true, true, true, false, false, false, false, false, false, false, false, false, false, false] rfl rfl (any_of HT_.out (by kernel_rfl)) (fun _ _ _ h => h) (Or.inl ⟨by rfl, ?_⟩) ?_ ?_
         rotate_left
         ·intro w'
          go_simp
          with_reducible rfl
         rotate_left
         ·simp only [Act.put, List.setIfInBounds_toArray, List.set_cons_zero, List.set_cons_succ, i64_w, i32_w]
          rfl
         refine pure_ (i := 3) (N := some 50) (v := ?_) (a' := ?_) #[true, true, true, true, false, false, false, false, false, false, false, false, false, false] rfl rfl (any_of HT_.out (by kernel_rfl)) (fun _ _ _ h => h) (Or.inl ⟨by rfl, ?_⟩) ?_ ?_
         rotate_left
         ·intro w'
          go_simp
          with_reducible rfl
         rotate_left
         ·simp only [Act.put, List.setIfInBounds_toArray, List.set_cons_zero, List.set_cons_succ, i64_w, i32_w]
          rfl
         refine take_ (i := 5) (N := some 52) (v := ?_) (a' := ?_) #[true, true, true, true, false, true, false, false, false, false, false, false, false, false] rfl rfl (take_ofW HT_.out HW_.out (by kernel_rfl)) (fun _ _ _ h => h) (Or.inl ⟨by rfl, ?_⟩) hHeld ?_ ?_
         rotate_left
         ·rintro w' ⟨s0, s1, s2, s3, s4, s5⟩
          go_simp
          with_reducible rfl
         rotate_left
         ·simp only [Act.put, List.setIfInBounds_toArray, List.set_cons_zero, List.set_cons_succ, i64_w, i32_w]
          rfl
         refine take_ (i := 6) (N := some 53) (v := ?_) (a' := ?_) #[true, true, true, true, false, true, true, false, false, false, false, false, false, false] rfl rfl (take_ofW HT_.out HW_.out (by kernel_rfl)) (fun _ _ _ h => h) (Or.inl ⟨by rfl, ?_⟩) hHeld ?_ ?_
         rotate_left
         ·rintro w' ⟨s0, s1, s2, s3, s4, s5⟩
          go_simp
          with_reducible rfl
         rotate_left
         ·simp only [Act.put, List.setIfInBounds_toArray, List.set_cons_zero, List.set_cons_succ, i64_w, i32_w]
          rfl
         refine one_ (i := 4) (N := some 51) #[true, true, true, true, true, true, true, false, false, false, false, false, false, false] rfl rfl (one_of HT_.out (by kernel_rfl)) (by decide) (fun K hK => ?_)
         refine goes_ Try.func30 (by kernel_rfl) rfl #[.int .u64 t865] (by rfl) rfl rfl (by (try simp only [List.map_toArray, List.map_cons, List.map_nil]); first | done | rfl | (simp only [List.length_drop, List.length_take]; rfl) | (simp only [*]; done)) ?_
         with_reducible refine (gradineref10_ToRat.calls kj15 t865 t867 t868 t871 _ A55.out).mono ?_
         rintro e w62 ⟨v869, v872, rfl, ho0, ho1, hb⟩
         refine ⟨_, rfl, ?_⟩
         have n0_ := Aside0.mk (Kd.R_mono (Kd.R_told (Kd.R_told (Kd.R_old (st HO_847001.out) hb) (Kd.R_base ho0)) (Kd.R_base ho1)) (fun _ h_ => h_.1))
         have n1_ := Aside0.mk (Kd.R_mono (Kd.R_told (Kd.R_told (Kd.R_old (st HO_847002.out) hb) (Kd.R_base ho0)) (Kd.R_base ho1)) (fun _ h_ => h_.1))
         have n2_ := Aside0.mk (Kd.R_mono (Kd.R_told (Kd.R_told (Kd.R_old (st HO_848001.out) hb) (Kd.R_base ho0)) (Kd.R_base ho1)) (fun _ h_ => h_.1))
         have n3_ := Aside0.mk (Kd.R_mono (Kd.R_told (Kd.R_told (Kd.R_old (st HO_848002.out) hb) (Kd.R_base ho0)) (Kd.R_base ho1)) (fun _ h_ => h_.1))
         have n4_ := Aside0.mk (Kd.R_lower (Kd.R_new' (Kd.R_new' (Kd.R_new' (Kd.R_new' ho0 (Kd.R_lt (st HO_847001.out))) (Kd.R_lt (st HO_847002.out))) (Kd.R_lt (st HO_848001.out))) (Kd.R_lt (st HO_848002.out))) (below_size (by repeat (first | (with_reducible first | exact HB.out | apply below_alloc | apply pw_below_drewN | apply below_drew1 | refine below_set ?_ GE846.out | refine below_set ?_ GE847.out) | exact HB.out))))
         have n5_ := Aside0.mk (Kd.R_lower (Kd.R_new' (Kd.R_new' (Kd.R_new' (Kd.R_new' ho1 (Kd.R_lt (st HO_847001.out))) (Kd.R_lt (st HO_847002.out))) (Kd.R_lt (st HO_848001.out))) (Kd.R_lt (st HO_848002.out))) (below_size (by repeat (first | (with_reducible first | exact HB.out | apply below_alloc | apply pw_below_drewN | apply below_drew1 | refine below_set ?_ GE846.out | refine below_set ?_ GE847.out) | exact HB.out))))
         have n6_ := Aside0.mk (blk_below (bk BK846.out) hb)
         have n7_ := Aside0.mk (blk_below (bk BK847.out) hb)
         have n8_ := Aside0.mk (below_step (by repeat (first | (with_reducible first | exact HB.out | apply below_alloc | apply pw_below_drewN | apply below_drew1 | refine below_set ?_ GE846.out | refine below_set ?_ GE847.out) | exact HB.out)) hb)
         clear HO_847001
         clear HO_847002
         clear HO_848001
         clear HO_848002
         clear BK846
         clear BK847
         clear HB
         have HO_847001 := n0_
         have HO_847002 := n1_
         have HO_848001 := n2_
         have HO_848002 := n3_
         have HO870 := n4_
         have HO873 := n5_
         have BK846 := n6_
         have BK847 := n7_
         have HB := n8_
         clear n0_ n1_ n2_ n3_ n4_ n5_ n6_ n7_ n8_
         (try clear hb)
         (try clear hb2)
         (try clear hk)
         (try clear hi)
         (try clear ho0)
         (try clear ho1)
         refine hK.out _ _ ⟨(blk_cell BK846.out 0).trans rfl, (blk_cell BK846.out 1).trans rfl, (blk_cell BK846.out 2).trans rfl, (blk_cell BK847.out 0).trans rfl, (blk_cell BK847.out 1).trans rfl, (blk_cell BK847.out 2).trans rfl⟩ (fun hHeld => ?_)
         clear hK K
         refine norm_ (a' := ?_) ?_ ?_
         rotate_left
         ·show Act.put _ (some 51) _ = _
          simp only [Act.put, List.setIfInBounds_toArray, List.set_cons_zero, List.set_cons_succ, i64_w, i32_w]
          rfl
         refine one_ (i := 7) (N := some 54) #[true, true, true, true, true, true, true, true, false, false, false, false, false, false] rfl rfl (one_of HT_.out (by kernel_rfl)) (by decide) (fun K hK => ?_)
         refine goes_ Try.func62 (by kernel_rfl) rfl #[.agg #[.bool t832, .slice Ao23 t833.length co23, .slice Ao24 t836.length co24], .agg #[.bool t839, .slice Ao26 t840.length co26, .slice Ao27 t843.length co27]] (by rfl) rfl rfl (by (try simp only [List.map_toArray, List.map_cons, List.map_nil]); first | done | rfl | (simp only [List.length_drop, List.length_take]; rfl) | (simp only [*]; done)) ?_
         with_reducible refine (gradineref07_Sub.calls kj15 t832 _ _ t833 _ _ t836 t839 _ _ t840 _ _ t843 t874 t875 t878 _ ?side1 ?side2 ?side3 ?side4 ?side5 ?side6 ?side7 ?side8 A56.out).mono ?_
         (case side1 => exact cs (Kd.R_reads' HO_847001.out).2.2)
         (case side2 => exact (Kd.R_reads' HO_847001.out).2.1)
         (case side3 => exact cs (Kd.R_reads' HO_847002.out).2.2)
         (case side4 => exact (Kd.R_reads' HO_847002.out).2.1)
         (case side5 => exact cs (Kd.R_reads' HO_848001.out).2.2)
         (case side6 => exact (Kd.R_reads' HO_848001.out).2.1)
         (case side7 => exact cs (Kd.R_reads' HO_848002.out).2.2)
         (case side8 => exact (Kd.R_reads' HO_848002.out).2.1)
         rintro e w63 ⟨v876, v879, rfl, ho0, ho1, hb⟩
         refine ⟨_, rfl, ?_⟩
         have n0_ := Aside0.mk (Kd.R_mono (Kd.R_told (Kd.R_told (Kd.R_old (st HO_847001.out) hb) (Kd.R_base ho0)) (Kd.R_base ho1)) (fun _ h_ => h_.1))
         have n1_ := Aside0.mk (Kd.R_mono (Kd.R_told (Kd.R_told (Kd.R_old (st HO_847002.out) hb) (Kd.R_base ho0)) (Kd.R_base ho1)) (fun _ h_ => h_.1))
         have n2_ := Aside0.mk (Kd.R_mono (Kd.R_told (Kd.R_told (Kd.R_old (st HO_848001.out) hb) (Kd.R_base ho0)) (Kd.R_base ho1)) (fun _ h_ => h_.1))
         have n3_ := Aside0.mk (Kd.R_mono (Kd.R_told (Kd.R_told (Kd.R_old (st HO_848002.out) hb) (Kd.R_base ho0)) (Kd.R_base ho1)) (fun _ h_ => h_.1))
         have n4_ := Aside0.mk (Kd.R_mono (Kd.R_told (Kd.R_told (Kd.R_old (st HO870.out) hb) (Kd.R_base ho0)) (Kd.R_base ho1)) (fun _ h_ => h_.1))
         have n5_ := Aside0.mk (Kd.R_mono (Kd.R_told (Kd.R_told (Kd.R_old (st HO873.out) hb) (Kd.R_base ho0)) (Kd.R_base ho1)) (fun _ h_ => h_.1))
         have n6_ := Aside0.mk (Kd.R_lower (Kd.R_new' (Kd.R_new' (Kd.R_new' (Kd.R_new' (Kd.R_new' (Kd.R_new' ho0 (Kd.R_lt (st HO_847001.out))) (Kd.R_lt (st HO_847002.out))) (Kd.R_lt (st HO_848001.out))) (Kd.R_lt (st HO_848002.out))) (Kd.R_lt (st HO870.out))) (Kd.R_lt (st HO873.out))) (below_size (by repeat (first | (with_reducible first | exact HB.out | apply below_alloc | apply pw_below_drewN | apply below_drew1 | refine below_set ?_ GE846.out | refine below_set ?_ GE847.out) | exact HB.out))))
         have n7_ := Aside0.mk (Kd.R_lower (Kd.R_new' (Kd.R_new' (Kd.R_new' (Kd.R_new' (Kd.R_new' (Kd.R_new' ho1 (Kd.R_lt (st HO_847001.out))) (Kd.R_lt (st HO_847002.out))) (Kd.R_lt (st HO_848001.out))) (Kd.R_lt (st HO_848002.out))) (Kd.R_lt (st HO870.out))) (Kd.R_lt (st HO873.out))) (below_size (by repeat (first | (with_reducible first | exact HB.out | apply below_alloc | apply pw_below_drewN | apply below_drew1 | refine below_set ?_ GE846.out | refine below_set ?_ GE847.out) | exact HB.out))))
         have n8_ := Aside0.mk (blk_below (bk BK846.out) hb)
         have n9_ := Aside0.mk (blk_below (bk BK847.out) hb)
         have n10_ := Aside0.mk (below_step (by repeat (first | (with_reducible first | exact HB.out | apply below_alloc | apply pw_below_drewN | apply below_drew1 | refine below_set ?_ GE846.out | refine below_set ?_ GE847.out) | exact HB.out)) hb)
         clear HO_847001
         clear HO_847002
         clear HO_848001
         clear HO_848002
         clear HO870
         clear HO873
         clear BK846
         clear BK847
         clear HB
         have HO_847001 := n0_
         have HO_847002 := n1_
         have HO_848001 := n2_
         have HO_848002 := n3_
         have HO870 := n4_
         have HO873 := n5_
         have HO877 := n6_
         have HO880 := n7_
         have BK846 := n8_
         have BK847 := n9_
         have HB := n10_
         clear n0_ n1_ n2_ n3_ n4_ n5_ n6_ n7_ n8_ n9_ n10_
         (try clear hb)
         (try clear hb2)
         (try clear hk)
         (try clear hi)
         (try clear ho0)
         (try clear ho1)
         obtain ⟨Ao64, co64, eo64⟩ := Kd.R_slice HO870.out
         (first | subst eo64 | (injection eo64 with f1_ f2_ f3_; have f4_ := f1_.symm; have f5_ := f3_.symm; clear f1_ f2_ f3_; subst f4_; subst f5_))
         obtain ⟨Ao65, co65, eo65⟩ := Kd.R_slice HO873.out
         (first | subst eo65 | (injection eo65 with f1_ f2_ f3_; have f4_ := f1_.symm; have f5_ := f3_.symm; clear f1_ f2_ f3_; subst f4_; subst f5_))
         obtain ⟨Ao66, co66, eo66⟩ := Kd.R_slice HO877.out
         (first | subst eo66 | (injection eo66 with f1_ f2_ f3_; have f4_ := f1_.symm; have f5_ := f3_.symm; clear f1_ f2_ f3_; subst f4_; subst f5_))
         obtain ⟨Ao67, co67, eo67⟩ := Kd.R_slice HO880.out
         (first | subst eo67 | (injection eo67 with f1_ f2_ f3_; have f4_ := f1_.symm; have f5_ := f3_.symm; clear f1_ f2_ f3_; subst f4_; subst f5_))
         refine hK.out _ _ ⟨(blk_cell BK846.out 0).trans rfl, (blk_cell BK846.out 1).trans rfl, (blk_cell BK846.out 2).trans rfl, (blk_cell BK847.out 0).trans rfl, (blk_cell BK847.out 1).trans rfl, (blk_cell BK847.out 2).trans rfl⟩ (fun hHeld => ?_)
         clear hK K
         refine norm_ (a' := ?_) ?_ ?_
         rotate_left
         ·show Act.put _ (some 54) _ = _
          simp only [Act.put, List.setIfInBounds_toArray, List.set_cons_zero, List.set_cons_succ, i64_w, i32_w]
          rfl
         refine one_ (i := 8) (N := some 55) #[true, true, true, true, true, true, true, true, true, false, false, false, false, false] rfl rfl (one_of HT_.out (by kernel_rfl)) (by decide) (fun K hK => ?_)
         refine goes_ Try.func61 (by kernel_rfl) rfl #[.agg #[.bool t867, .slice Ao64 t868.length co64, .slice Ao65 t871.length co65], .agg #[.bool t874, .slice Ao66 t875.length co66, .slice Ao67 t878.length co67]] (by rfl) rfl rfl (by (try simp only [List.map_toArray, List.map_cons, List.map_nil]); first | done | rfl | (simp only [List.length_drop, List.length_take]; rfl) | (simp only [*]; done)) ?_
         with_reducible refine (gradineref07_Same.calls kj15 t867 _ _ t868 _ _ t871 t874 _ _ t875 _ _ t878 true _ ?side1 ?side2 ?side3 ?side4 ?side5 ?side6 ?side7 ?side8 A57.out).mono ?_
         (case side1 => exact cs (Kd.R_reads' HO870.out).2.2)
         (case side2 => exact (Kd.R_reads' HO870.out).2.1)
         (case side3 => exact cs (Kd.R_reads' HO873.out).2.2)
         (case side4 => exact (Kd.R_reads' HO873.out).2.1)
         (case side5 => exact cs (Kd.R_reads' HO877.out).2.2)
         (case side6 => exact (Kd.R_reads' HO877.out).2.1)
         (case side7 => exact cs (Kd.R_reads' HO880.out).2.2)
         (case side8 => exact (Kd.R_reads' HO880.out).2.1)
         rintro e w68 ⟨rfl, hb⟩
         refine ⟨_, rfl, ?_⟩
         have n0_ := Aside0.mk (Kd.R_below (st HO_847001.out) hb)
         have n1_ := Aside0.mk (Kd.R_below (st HO_847002.out) hb)
         have n2_ := Aside0.mk (Kd.R_below (st HO_848001.out) hb)
         have n3_ := Aside0.mk (Kd.R_below (st HO_848002.out) hb)
         have n4_ := Aside0.mk (Kd.R_below (st HO870.out) hb)
         have n5_ := Aside0.mk (Kd.R_below (st HO873.out) hb)
         have n6_ := Aside0.mk (Kd.R_below (st HO877.out) hb)
         have n7_ := Aside0.mk (Kd.R_below (st HO880.out) hb)
         have n8_ := Aside0.mk (blk_below (bk BK846.out) hb)
         have n9_ := Aside0.mk (blk_below (bk BK847.out) hb)
         have n10_ := Aside0.mk (below_step (by repeat (first | (with_reducible first | exact HB.out | apply below_alloc | apply pw_below_drewN | apply below_drew1 | refine below_set ?_ GE846.out | refine below_set ?_ GE847.out) | exact HB.out)) hb)
         clear HO_847001
         clear HO_847002
         clear HO_848001
         clear HO_848002
         clear HO870
         clear HO873
         clear HO877
         clear HO880
         clear BK846
         clear BK847
         clear HB
         have HO_847001 := n0_
         have HO_847002 := n1_
         have HO_848001 := n2_
         have HO_848002 := n3_
         have HO870 := n4_
         have HO873 := n5_
         have HO877 := n6_
         have HO880 := n7_
         have BK846 := n8_
         have BK847 := n9_
         have HB := n10_
         clear n0_ n1_ n2_ n3_ n4_ n5_ n6_ n7_ n8_ n9_ n10_
         (try clear hb)
         (try clear hb2)
         (try clear hk)
         (try clear hi)
         refine hK.out _ _ ⟨(blk_cell BK846.out 0).trans rfl, (blk_cell BK846.out 1).trans rfl, (blk_cell BK846.out 2).trans rfl, (blk_cell BK847.out 0).trans rfl, (blk_cell BK847.out 1).trans rfl, (blk_cell BK847.out 2).trans rfl⟩ (fun hHeld => ?_)
         clear hK K
         refine norm_ (a' := ?_) ?_ ?_
         rotate_left
         ·show Act.put _ (some 55) _ = _
          simp only [Act.put, List.setIfInBounds_toArray, List.set_cons_zero, List.set_cons_succ, i64_w, i32_w]
          rfl
         refine pure_ (i := 9) (N := some 56) (v := ?_) (a' := ?_) #[true, true, true, true, true, true, true, true, true, true, false, false, false, false] rfl rfl (any_of HT_.out (by kernel_rfl)) (fun _ _ _ h => h) (Or.inl ⟨by rfl, ?_⟩) ?_ ?_
         rotate_left
         ·intro w'
          go_simp
          with_reducible rfl
         rotate_left
         ·simp only [Act.put, List.setIfInBounds_toArray, List.set_cons_zero, List.set_cons_succ, i64_w, i32_w]
          rfl
         refine pure_ (i := 10) (N := some 57) (v := ?_) (a' := ?_) #[true, true, true, true, true, true, true, true, true, true, true, false, false, false] rfl rfl (any_of HT_.out (by kernel_rfl)) (fun _ _ _ h => h) (Or.inl ⟨by rfl, ?_⟩) ?_ ?_
         rotate_left
         ·intro w'
          go_simp
          with_reducible rfl
         rotate_left
         ·simp only [Act.put, List.setIfInBounds_toArray, List.set_cons_zero, List.set_cons_succ, i64_w, i32_w]
          rfl
         refine one_ (i := 11) (N := some 58) #[true, true, true, true, true, true, true, true, true, true, true, true, false, false] rfl rfl (one_of HT_.out (by kernel_rfl)) (by decide) (fun K hK => ?_)
         refine goes_ Try.func59 (by kernel_rfl) rfl #[] (by rfl) rfl rfl (by (try simp only [List.map_toArray, List.map_cons, List.map_nil]); first | done | rfl | (simp only [List.length_drop, List.length_take]; rfl) | (simp only [*]; done)) ?_
         with_reducible refine (gradinelaw11_same.calls kj15  t882 _ A59.out).mono ?_
         rintro e w69 ⟨rfl, hb⟩
         refine ⟨_, rfl, ?_⟩
         have n0_ := Aside0.mk (Kd.R_below (st HO_847001.out) hb)
         have n1_ := Aside0.mk (Kd.R_below (st HO_847002.out) hb)
         have n2_ := Aside0.mk (Kd.R_below (st HO_848001.out) hb)
         have n3_ := Aside0.mk (Kd.R_below (st HO_848002.out) hb)
         have n4_ := Aside0.mk (Kd.R_below (st HO870.out) hb)
         have n5_ := Aside0.mk (Kd.R_below (st HO873.out) hb)
         have n6_ := Aside0.mk (Kd.R_below (st HO877.out) hb)
         have n7_ := Aside0.mk (Kd.R_below (st HO880.out) hb)
         have n8_ := Aside0.mk (blk_below (bk BK846.out) hb)
         have n9_ := Aside0.mk (blk_below (bk BK847.out) hb)
         have n10_ := Aside0.mk (below_step (by repeat (first | (with_reducible first | exact HB.out | apply below_alloc | apply pw_below_drewN | apply below_drew1 | refine below_set ?_ GE846.out | refine below_set ?_ GE847.out) | exact HB.out)) hb)
         clear HO_847001
         clear HO_847002
         clear HO_848001
         clear HO_848002
         clear HO870
         clear HO873
         clear HO877
         clear HO880
         clear BK846
         clear BK847
         clear HB
         have HO_847001 := n0_
         have HO_847002 := n1_
         have HO_848001 := n2_
         have HO_848002 := n3_
         have HO870 := n4_
         have HO873 := n5_
         have HO877 := n6_
         have HO880 := n7_
         have BK846 := n8_
         have BK847 := n9_
         have HB := n10_
         clear n0_ n1_ n2_ n3_ n4_ n5_ n6_ n7_ n8_ n9_ n10_
         (try clear hb)
         (try clear hb2)
         (try clear hk)
         (try clear hi)
         refine hK.out _ _ ⟨(blk_cell BK846.out 0).trans rfl, (blk_cell BK846.out 1).trans rfl, (blk_cell BK846.out 2).trans rfl, (blk_cell BK847.out 0).trans rfl, (blk_cell BK847.out 1).trans rfl, (blk_cell BK847.out 2).trans rfl⟩ (fun hHeld => ?_)
         clear hK K
         refine norm_ (a' := ?_) ?_ ?_
         rotate_left
         ·show Act.put _ (some 58) _ = _
          simp only [Act.put, List.setIfInBounds_toArray, List.set_cons_zero, List.set_cons_succ, i64_w, i32_w]
          rfl
         refine pure_ (i := 12) (N := some 59) (v := ?_) (a' := ?_) #[true, true, true, true, true, true, true, true, true, true, true, true, true, false] rfl rfl (any_of HT_.out (by kernel_rfl)) (fun _ _ _ h => h) (Or.inl ⟨by rfl, ?_⟩) ?_ ?_
         rotate_left
         ·intro w'
          go_simp
          with_reducible rfl
         rotate_left
         ·simp only [Act.put, List.setIfInBounds_toArray, List.set_cons_zero, List.set_cons_succ, i64_w, i32_w]
          rfl
         refine pure_ (i := 13) (N := some 4) (v := ?_) (a' := ?_) #[true, true, true, true, true, true, true, true, true, true, true, true, true, true] rfl rfl (any_of HT_.out (by kernel_rfl)) (fun _ _ _ h => h) (Or.inl ⟨by rfl, ?_⟩) ?_ ?_
         rotate_left
         ·intro w'
          go_simp
          with_reducible rfl
         rotate_left
         ·simp only [Act.put, List.setIfInBounds_toArray, List.set_cons_zero, List.set_cons_succ, i64_w, i32_w]
          rfl
         refine done_ (done_of HT_.out (by kernel_rfl)) ?_
         try go_wp2
         go_ret
         exact ⟨by first | rfl | (simp [errW_none, errW_some] <;> rfl) | (simp [*, errW_none, errW_some] <;> rfl), by repeat (first | (with_reducible first | exact HB.out | apply below_alloc | apply pw_below_drewN | apply below_drew1 | refine below_set ?_ GE846.out | refine below_set ?_ GE847.out) | exact HB.out)⟩
        ·replace c58 := Bool.eq_false_iff.mpr c58
         subst c58
         have H1 : (some false) = some r := by rw [if_neg (show ¬ (false = true) by decide)] at H; exact H
         clear H
         have H := H1
         clear H1
         obtain rfl := Option.some.inj H
         try go_wp2_with (first | ((with_reducible refine gate_callee (f := 57) rfl ?_); refine goesL_ (some 46) rfl rfl Try.func57 (by kernel_rfl) rfl #[.int .u64 a0, .int .u64 a1] rfl (by (try simp only [List.map_toArray, List.map_cons, List.map_nil]); first | done | rfl | (simp only [List.length_drop, List.length_take]; rfl) | (simp only [*]; done)) ?_; (with_reducible refine (fsum_Sub.calls kj15 a0 a1 t865 _ A52.out).mono ?_); rintro e w70 ⟨rfl, hb⟩; refine ⟨_, rfl, ?_⟩; have n0_ := Aside0.mk (Kd.R_below (st HO_847001.out) hb); have n1_ := Aside0.mk (Kd.R_below (st HO_847002.out) hb); have n2_ := Aside0.mk (Kd.R_below (st HO_848001.out) hb); have n3_ := Aside0.mk (Kd.R_below (st HO_848002.out) hb); have n4_ := Aside0.mk (blk_below (bk BK846.out) hb); have n5_ := Aside0.mk (blk_below (bk BK847.out) hb); have n6_ := Aside0.mk (below_step (by repeat (first | (with_reducible first | exact HB.out | apply below_alloc | apply pw_below_drewN | apply below_drew1 | refine below_set ?_ GE846.out | refine below_set ?_ GE847.out) | exact HB.out)) hb); clear HO_847001; clear HO_847002; clear HO_848001; clear HO_848002; clear BK846; clear BK847; clear HB; have HO_847001 := n0_; have HO_847002 := n1_; have HO_848001 := n2_; have HO_848002 := n3_; have BK846 := n4_; have BK847 := n5_; have HB := n6_; clear n0_ n1_ n2_ n3_ n4_ n5_ n6_; (try clear hb); (try clear hb2); (try clear hk); (try clear hi)))
         have n0_ := Aside0.mk (Kd.R_drew HO_847001.out)
         have n1_ := Aside0.mk (Kd.R_drew HO_847002.out)
         have n2_ := Aside0.mk (Kd.R_drew HO_848001.out)
         have n3_ := Aside0.mk (Kd.R_drew HO_848002.out)
         have n4_ := Aside0.mk (blk_drew BK846.out)
         have n5_ := Aside0.mk (blk_drew BK847.out)
         have n6_ := Aside0.mk (below_drew1 HB.out)
         clear HO_847001
         clear HO_847002
         clear HO_848001
         clear HO_848002
         clear BK846
         clear BK847
         clear HB
         have HO_847001 := n0_
         have HO_847002 := n1_
         have HO_848001 := n2_
         have HO_848002 := n3_
         have BK846 := n4_
         have BK847 := n5_
         have HB := n6_
         clear n0_ n1_ n2_ n3_ n4_ n5_ n6_
         refine start_ (n := 14) (S := fun w' => w'.cell? ⟨gb846, 0, none⟩ = some (.bool t832) ∧ w'.cell? ⟨gb846, 1, none⟩ = some (.slice Ao23 t833.length co23) ∧ w'.cell? ⟨gb846, 2, none⟩ = some (.slice Ao24 t836.length co24) ∧ w'.cell? ⟨gb847, 0, none⟩ = some (.bool t839) ∧ w'.cell? ⟨gb847, 1, none⟩ = some (.slice Ao26 t840.length co26) ∧ w'.cell? ⟨gb847, 2, none⟩ = some (.slice Ao27 t843.length co27)) (ds := []) #[false, false, false, false, false, false, false, false, false, false, false, false, false, false] (by kernel_rfl) rfl rfl ⟨(blk_cell BK846.out 0).trans rfl, (blk_cell BK846.out 1).trans rfl, (blk_cell BK846.out 2).trans rfl, (blk_cell BK847.out 0).trans rfl, (blk_cell BK847.out 1).trans rfl, (blk_cell BK847.out 2).trans rfl⟩ (fun hHeld => ?_); refine with_tabW gradinelaw11_FsumExact.tab7 gradinelaw11_FsumExact.bits7 (fun HT_ HW_ => ?_)
         generalize w70.drew = w71 at HO_847001 HO_847002 HO_848001 HO_848002 BK846 BK847 HB hHeld ⊢
         refine pure_ (i := 0) (N := some 47) (v := ?_) (a' := ?_) #[true, false, false, false, false, false, false, false, false, false, false, false, false, false] rfl rfl (any_of HT_.out (by kernel_rfl)) (fun _ _ _ h => h) (Or.inl ⟨by rfl, ?_⟩) ?_ ?_
         rotate_left
         ·intro w'
          go_simp
          with_reducible rfl
         rotate_left
         ·simp only [Act.put, List.setIfInBounds_toArray, List.set_cons_zero, List.set_cons_succ, i64_w, i32_w]
          rfl
         refine one_ (i := 1) (N := some 48) #[true, true, false, false, false, false, false, false, false, false, false, false, false, false] rfl rfl (one_of HT_.out (by kernel_rfl)) (by decide) (fun K hK => ?_)
         refine goes_ Try.func26 (by kernel_rfl) rfl #[.int .u64 t865] (by rfl) rfl rfl (by (try simp only [List.map_toArray, List.map_cons, List.map_nil]); first | done | rfl | (simp only [List.length_drop, List.length_take]; rfl) | (simp only [*]; done)) ?_
         with_reducible refine (gradineref09_Finite.calls t865 true _ A53.out).mono ?_
         rintro e w' ⟨rfl, ⟨nd, rfl⟩⟩
         refine ⟨_, rfl, ?_⟩
         refine hK.out _ _ ⟨(blk_cell BK846.out 0).trans rfl, (blk_cell BK846.out 1).trans rfl, (blk_cell BK846.out 2).trans rfl, (blk_cell BK847.out 0).trans rfl, (blk_cell BK847.out 1).trans rfl, (blk_cell BK847.out 2).trans rfl⟩ (fun hHeld => ?_)
         clear hK K
         refine norm_ (a' := ?_) ?_ ?_
         rotate_left
         ·show Act.put _ (some 48) _ = _
          simp only [Act.put, List.setIfInBounds_toArray, List.set_cons_zero, List.set_cons_succ, i64_w, i32_w]
          rfl
         refine pure_ (i := 2) (N := some 49) (v := ?_) (a' := ?_) #[true, true, true, false, false, false, false, false, false, false, false, false, false, false] rfl rfl (any_of HT_.out (by kernel_rfl)) (fun _ _ _ h => h) (Or.inl ⟨by rfl, ?_⟩) ?_ ?_
         rotate_left
         ·intro w'
          go_simp
          with_reducible rfl
         rotate_left
         ·simp only [Act.put, List.setIfInBounds_toArray, List.set_cons_zero, List.set_cons_succ, i64_w, i32_w]
          rfl
         refine pure_ (i := 3) (N := some 50) (v := ?_) (a' := ?_) #[true, true, true, true, false, false, false, false, false, false, false, false, false, false] rfl rfl (any_of HT_.out (by kernel_rfl)) (fun _ _ _ h => h) (Or.inl ⟨by rfl, ?_⟩) ?_ ?_
         rotate_left
         ·intro w'
          go_simp
          with_reducible rfl
         rotate_left
         ·simp only [Act.put, List.setIfInBounds_toArray, List.set_cons_zero, List.set_cons_succ, i64_w, i32_w]
          rfl
         refine take_ (i := 5) (N := some 52) (v := ?_) (a' := ?_) #[true, true, true, true, false, true, false, false, false, false, false, false, false, false] rfl rfl (take_ofW HT_.out HW_.out (by kernel_rfl)) (fun _ _ _ h => h) (Or.inl ⟨by rfl, ?_⟩) hHeld ?_ ?_
         rotate_left
         ·rintro w' ⟨s0, s1, s2, s3, s4, s5⟩
          go_simp
          with_reducible rfl
         rotate_left
         ·simp only [Act.put, List.setIfInBounds_toArray, List.set_cons_zero, List.set_cons_succ, i64_w, i32_w]
          rfl
         refine take_ (i := 6) (N := some 53) (v := ?_) (a' := ?_) #[true, true, true, true, false, true, true, false, false, false, false, false, false, false] rfl rfl (take_ofW HT_.out HW_.out (by kernel_rfl)) (fun _ _ _ h => h) (Or.inl ⟨by rfl, ?_⟩) hHeld ?_ ?_
         rotate_left
         ·rintro w' ⟨s0, s1, s2, s3, s4, s5⟩
          go_simp
          with_reducible rfl
         rotate_left
         ·simp only [Act.put, List.setIfInBounds_toArray, List.set_cons_zero, List.set_cons_succ, i64_w, i32_w]
          rfl
         refine one_ (i := 4) (N := some 51) #[true, true, true, true, true, true, true, false, false, false, false, false, false, false] rfl rfl (one_of HT_.out (by kernel_rfl)) (by decide) (fun K hK => ?_)
         refine goes_ Try.func30 (by kernel_rfl) rfl #[.int .u64 t865] (by rfl) rfl rfl (by (try simp only [List.map_toArray, List.map_cons, List.map_nil]); first | done | rfl | (simp only [List.length_drop, List.length_take]; rfl) | (simp only [*]; done)) ?_
         with_reducible refine (gradineref10_ToRat.calls kj15 t865 t867 t868 t871 _ A55.out).mono ?_
         rintro e w72 ⟨v869, v872, rfl, ho0, ho1, hb⟩
         refine ⟨_, rfl, ?_⟩
         have n0_ := Aside0.mk (Kd.R_mono (Kd.R_told (Kd.R_told (Kd.R_old (st HO_847001.out) hb) (Kd.R_base ho0)) (Kd.R_base ho1)) (fun _ h_ => h_.1))
         have n1_ := Aside0.mk (Kd.R_mono (Kd.R_told (Kd.R_told (Kd.R_old (st HO_847002.out) hb) (Kd.R_base ho0)) (Kd.R_base ho1)) (fun _ h_ => h_.1))
         have n2_ := Aside0.mk (Kd.R_mono (Kd.R_told (Kd.R_told (Kd.R_old (st HO_848001.out) hb) (Kd.R_base ho0)) (Kd.R_base ho1)) (fun _ h_ => h_.1))
         have n3_ := Aside0.mk (Kd.R_mono (Kd.R_told (Kd.R_told (Kd.R_old (st HO_848002.out) hb) (Kd.R_base ho0)) (Kd.R_base ho1)) (fun _ h_ => h_.1))
         have n4_ := Aside0.mk (Kd.R_lower (Kd.R_new' (Kd.R_new' (Kd.R_new' (Kd.R_new' ho0 (Kd.R_lt (st HO_847001.out))) (Kd.R_lt (st HO_847002.out))) (Kd.R_lt (st HO_848001.out))) (Kd.R_lt (st HO_848002.out))) (below_size (by repeat (first | (with_reducible first | exact HB.out | apply below_alloc | apply pw_below_drewN | apply below_drew1 | refine below_set ?_ GE846.out | refine below_set ?_ GE847.out) | exact HB.out))))
         have n5_ := Aside0.mk (Kd.R_lower (Kd.R_new' (Kd.R_new' (Kd.R_new' (Kd.R_new' ho1 (Kd.R_lt (st HO_847001.out))) (Kd.R_lt (st HO_847002.out))) (Kd.R_lt (st HO_848001.out))) (Kd.R_lt (st HO_848002.out))) (below_size (by repeat (first | (with_reducible first | exact HB.out | apply below_alloc | apply pw_below_drewN | apply below_drew1 | refine below_set ?_ GE846.out | refine below_set ?_ GE847.out) | exact HB.out))))
         have n6_ := Aside0.mk (blk_below (bk BK846.out) hb)
         have n7_ := Aside0.mk (blk_below (bk BK847.out) hb)
         have n8_ := Aside0.mk (below_step (by repeat (first | (with_reducible first | exact HB.out | apply below_alloc | apply pw_below_drewN | apply below_drew1 | refine below_set ?_ GE846.out | refine below_set ?_ GE847.out) | exact HB.out)) hb)
         clear HO_847001
         clear HO_847002
         clear HO_848001
         clear HO_848002
         clear BK846
         clear BK847
         clear HB
         have HO_847001 := n0_
         have HO_847002 := n1_
         have HO_848001 := n2_
         have HO_848002 := n3_
         have HO870 := n4_
         have HO873 := n5_
         have BK846 := n6_
         have BK847 := n7_
         have HB := n8_
         clear n0_ n1_ n2_ n3_ n4_ n5_ n6_ n7_ n8_
         (try clear hb)
         (try clear hb2)
         (try clear hk)
         (try clear hi)
         (try clear ho0)
         (try clear ho1)
         refine hK.out _ _ ⟨(blk_cell BK846.out 0).trans rfl, (blk_cell BK846.out 1).trans rfl, (blk_cell BK846.out 2).trans rfl, (blk_cell BK847.out 0).trans rfl, (blk_cell BK847.out 1).trans rfl, (blk_cell BK847.out 2).trans rfl⟩ (fun hHeld => ?_)
         clear hK K
         refine norm_ (a' := ?_) ?_ ?_
         rotate_left
         ·show Act.put _ (some 51) _ = _
          simp only [Act.put, List.setIfInBounds_toArray, List.set_cons_zero, List.set_cons_succ, i64_w, i32_w]
          rfl
         refine one_ (i := 7) (N := some 54) #[true, true, true, true, true, true, true, true, false, false, false, false, false, false] rfl rfl (one_of HT_.out (by kernel_rfl)) (by decide) (fun K hK => ?_)
         refine goes_ Try.func62 (by kernel_rfl) rfl #[.agg #[.bool t832, .slice Ao23 t833.length co23, .slice Ao24 t836.length co24], .agg #[.bool t839, .slice Ao26 t840.length co26, .slice Ao27 t843.length co27]] (by rfl) rfl rfl (by (try simp only [List.map_toArray, List.map_cons, List.map_nil]); first | done | rfl | (simp only [List.length_drop, List.length_take]; rfl) | (simp only [*]; done)) ?_
         with_reducible refine (gradineref07_Sub.calls kj15 t832 _ _ t833 _ _ t836 t839 _ _ t840 _ _ t843 t874 t875 t878 _ ?side1 ?side2 ?side3 ?side4 ?side5 ?side6 ?side7 ?side8 A56.out).mono ?_
         (case side1 => exact cs (Kd.R_reads' HO_847001.out).2.2)
         (case side2 => exact (Kd.R_reads' HO_847001.out).2.1)
         (case side3 => exact cs (Kd.R_reads' HO_847002.out).2.2)
         (case side4 => exact (Kd.R_reads' HO_847002.out).2.1)
         (case side5 => exact cs (Kd.R_reads' HO_848001.out).2.2)
         (case side6 => exact (Kd.R_reads' HO_848001.out).2.1)
         (case side7 => exact cs (Kd.R_reads' HO_848002.out).2.2)
         (case side8 => exact (Kd.R_reads' HO_848002.out).2.1)
         rintro e w73 ⟨v876, v879, rfl, ho0, ho1, hb⟩
         refine ⟨_, rfl, ?_⟩
         have n0_ := Aside0.mk (Kd.R_mono (Kd.R_told (Kd.R_told (Kd.R_old (st HO_847001.out) hb) (Kd.R_base ho0)) (Kd.R_base ho1)) (fun _ h_ => h_.1))
         have n1_ := Aside0.mk (Kd.R_mono (Kd.R_told (Kd.R_told (Kd.R_old (st HO_847002.out) hb) (Kd.R_base ho0)) (Kd.R_base ho1)) (fun _ h_ => h_.1))
         have n2_ := Aside0.mk (Kd.R_mono (Kd.R_told (Kd.R_told (Kd.R_old (st HO_848001.out) hb) (Kd.R_base ho0)) (Kd.R_base ho1)) (fun _ h_ => h_.1))
         have n3_ := Aside0.mk (Kd.R_mono (Kd.R_told (Kd.R_told (Kd.R_old (st HO_848002.out) hb) (Kd.R_base ho0)) (Kd.R_base ho1)) (fun _ h_ => h_.1))
         have n4_ := Aside0.mk (Kd.R_mono (Kd.R_told (Kd.R_told (Kd.R_old (st HO870.out) hb) (Kd.R_base ho0)) (Kd.R_base ho1)) (fun _ h_ => h_.1))
         have n5_ := Aside0.mk (Kd.R_mono (Kd.R_told (Kd.R_told (Kd.R_old (st HO873.out) hb) (Kd.R_base ho0)) (Kd.R_base ho1)) (fun _ h_ => h_.1))
         have n6_ := Aside0.mk (Kd.R_lower (Kd.R_new' (Kd.R_new' (Kd.R_new' (Kd.R_new' (Kd.R_new' (Kd.R_new' ho0 (Kd.R_lt (st HO_847001.out))) (Kd.R_lt (st HO_847002.out))) (Kd.R_lt (st HO_848001.out))) (Kd.R_lt (st HO_848002.out))) (Kd.R_lt (st HO870.out))) (Kd.R_lt (st HO873.out))) (below_size (by repeat (first | (with_reducible first | exact HB.out | apply below_alloc | apply pw_below_drewN | apply below_drew1 | refine below_set ?_ GE846.out | refine below_set ?_ GE847.out) | exact HB.out))))
         have n7_ := Aside0.mk (Kd.R_lower (Kd.R_new' (Kd.R_new' (Kd.R_new' (Kd.R_new' (Kd.R_new' (Kd.R_new' ho1 (Kd.R_lt (st HO_847001.out))) (Kd.R_lt (st HO_847002.out))) (Kd.R_lt (st HO_848001.out))) (Kd.R_lt (st HO_848002.out))) (Kd.R_lt (st HO870.out))) (Kd.R_lt (st HO873.out))) (below_size (by repeat (first | (with_reducible first | exact HB.out | apply below_alloc | apply pw_below_drewN | apply below_drew1 | refine below_set ?_ GE846.out | refine below_set ?_ GE847.out) | exact HB.out))))
         have n8_ := Aside0.mk (blk_below (bk BK846.out) hb)
         have n9_ := Aside0.mk (blk_below (bk BK847.out) hb)
         have n10_ := Aside0.mk (below_step (by repeat (first | (with_reducible first | exact HB.out | apply below_alloc | apply pw_below_drewN | apply below_drew1 | refine below_set ?_ GE846.out | refine below_set ?_ GE847.out) | exact HB.out)) hb)
         clear HO_847001
         clear HO_847002
         clear HO_848001
         clear HO_848002
         clear HO870
         clear HO873
         clear BK846
         clear BK847
         clear HB
         have HO_847001 := n0_
         have HO_847002 := n1_
         have HO_848001 := n2_
         have HO_848002 := n3_
         have HO870 := n4_
         have HO873 := n5_
         have HO877 := n6_
         have HO880 := n7_
         have BK846 := n8_
         have BK847 := n9_
         have HB := n10_
         clear n0_ n1_ n2_ n3_ n4_ n5_ n6_ n7_ n8_ n9_ n10_
         (try clear hb)
         (try clear hb2)
         (try clear hk)
         (try clear hi)
         (try clear ho0)
         (try clear ho1)
         obtain ⟨Ao74, co74, eo74⟩ := Kd.R_slice HO870.out
         (first | subst eo74 | (injection eo74 with f1_ f2_ f3_; have f4_ := f1_.symm; have f5_ := f3_.symm; clear f1_ f2_ f3_; subst f4_; subst f5_))
         obtain ⟨Ao75, co75, eo75⟩ := Kd.R_slice HO873.out
         (first | subst eo75 | (injection eo75 with f1_ f2_ f3_; have f4_ := f1_.symm; have f5_ := f3_.symm; clear f1_ f2_ f3_; subst f4_; subst f5_))
         obtain ⟨Ao76, co76, eo76⟩ := Kd.R_slice HO877.out
         (first | subst eo76 | (injection eo76 with f1_ f2_ f3_; have f4_ := f1_.symm; have f5_ := f3_.symm; clear f1_ f2_ f3_; subst f4_; subst f5_))
         obtain ⟨Ao77, co77, eo77⟩ := Kd.R_slice HO880.out
         (first | subst eo77 | (injection eo77 with f1_ f2_ f3_; have f4_ := f1_.symm; have f5_ := f3_.symm; clear f1_ f2_ f3_; subst f4_; subst f5_))
         refine hK.out _ _ ⟨(blk_cell BK846.out 0).trans rfl, (blk_cell BK846.out 1).trans rfl, (blk_cell BK846.out 2).trans rfl, (blk_cell BK847.out 0).trans rfl, (blk_cell BK847.out 1).trans rfl, (blk_cell BK847.out 2).trans rfl⟩ (fun hHeld => ?_)
         clear hK K
         refine norm_ (a' := ?_) ?_ ?_
         rotate_left
         ·show Act.put _ (some 54) _ = _
          simp only [Act.put, List.setIfInBounds_toArray, List.set_cons_zero, List.set_cons_succ, i64_w, i32_w]
          rfl
         refine one_ (i := 8) (N := some 55) #[true, true, true, true, true, true, true, true, true, false, false, false, false, false] rfl rfl (one_of HT_.out (by kernel_rfl)) (by decide) (fun K hK => ?_)
         refine goes_ Try.func61 (by kernel_rfl) rfl #[.agg #[.bool t867, .slice Ao74 t868.length co74, .slice Ao75 t871.length co75], .agg #[.bool t874, .slice Ao76 t875.length co76, .slice Ao77 t878.length co77]] (by rfl) rfl rfl (by (try simp only [List.map_toArray, List.map_cons, List.map_nil]); first | done | rfl | (simp only [List.length_drop, List.length_take]; rfl) | (simp only [*]; done)) ?_
         with_reducible refine (gradineref07_Same.calls kj15 t867 _ _ t868 _ _ t871 t874 _ _ t875 _ _ t878 false _ ?side1 ?side2 ?side3 ?side4 ?side5 ?side6 ?side7 ?side8 A57.out).mono ?_
         (case side1 => exact cs (Kd.R_reads' HO870.out).2.2)
         (case side2 => exact (Kd.R_reads' HO870.out).2.1)
         (case side3 => exact cs (Kd.R_reads' HO873.out).2.2)
         (case side4 => exact (Kd.R_reads' HO873.out).2.1)
         (case side5 => exact cs (Kd.R_reads' HO877.out).2.2)
         (case side6 => exact (Kd.R_reads' HO877.out).2.1)
         (case side7 => exact cs (Kd.R_reads' HO880.out).2.2)
         (case side8 => exact (Kd.R_reads' HO880.out).2.1)
         rintro e w78 ⟨rfl, hb⟩
         refine ⟨_, rfl, ?_⟩
         have n0_ := Aside0.mk (Kd.R_below (st HO_847001.out) hb)
         have n1_ := Aside0.mk (Kd.R_below (st HO_847002.out) hb)
         have n2_ := Aside0.mk (Kd.R_below (st HO_848001.out) hb)
         have n3_ := Aside0.mk (Kd.R_below (st HO_848002.out) hb)
         have n4_ := Aside0.mk (Kd.R_below (st HO870.out) hb)
         have n5_ := Aside0.mk (Kd.R_below (st HO873.out) hb)
         have n6_ := Aside0.mk (Kd.R_below (st HO877.out) hb)
         have n7_ := Aside0.mk (Kd.R_below (st HO880.out) hb)
         have n8_ := Aside0.mk (blk_below (bk BK846.out) hb)
         have n9_ := Aside0.mk (blk_below (bk BK847.out) hb)
         have n10_ := Aside0.mk (below_step (by repeat (first | (with_reducible first | exact HB.out | apply below_alloc | apply pw_below_drewN | apply below_drew1 | refine below_set ?_ GE846.out | refine below_set ?_ GE847.out) | exact HB.out)) hb)
         clear HO_847001
         clear HO_847002
         clear HO_848001
         clear HO_848002
         clear HO870
         clear HO873
         clear HO877
         clear HO880
         clear BK846
         clear BK847
         clear HB
         have HO_847001 := n0_
         have HO_847002 := n1_
         have HO_848001 := n2_
         have HO_848002 := n3_
         have HO870 := n4_
         have HO873 := n5_
         have HO877 := n6_
         have HO880 := n7_
         have BK846 := n8_
         have BK847 := n9_
         have HB := n10_
         clear n0_ n1_ n2_ n3_ n4_ n5_ n6_ n7_ n8_ n9_ n10_
         (try clear hb)
         (try clear hb2)
         (try clear hk)
         (try clear hi)
         refine hK.out _ _ ⟨(blk_cell BK846.out 0).trans rfl, (blk_cell BK846.out 1).trans rfl, (blk_cell BK846.out 2).trans rfl, (blk_cell BK847.out 0).trans rfl, (blk_cell BK847.out 1).trans rfl, (blk_cell BK847.out 2).trans rfl⟩ (fun hHeld => ?_)
         clear hK K
         refine norm_ (a' := ?_) ?_ ?_
         rotate_left
         ·show Act.put _ (some 55) _ = _
          simp only [Act.put, List.setIfInBounds_toArray, List.set_cons_zero, List.set_cons_succ, i64_w, i32_w]
          rfl
         refine pure_ (i := 9) (N := some 56) (v := ?_) (a' := ?_) #[true, true, true, true, true, true, true, true, true, true, false, false, false, false] rfl rfl (any_of HT_.out (by kernel_rfl)) (fun _ _ _ h => h) (Or.inl ⟨by rfl, ?_⟩) ?_ ?_
         rotate_left
         ·intro w'
          go_simp
          with_reducible rfl
         rotate_left
         ·simp only [Act.put, List.setIfInBounds_toArray, List.set_cons_zero, List.set_cons_succ, i64_w, i32_w]
          rfl
         refine pure_ (i := 10) (N := some 57) (v := ?_) (a' := ?_) #[true, true, true, true, true, true, true, true, true, true, true, false, false, false] rfl rfl (any_of HT_.out (by kernel_rfl)) (fun _ _ _ h => h) (Or.inl ⟨by rfl, ?_⟩) ?_ ?_
         rotate_left
         ·intro w'
          go_simp
          with_reducible rfl
         rotate_left
         ·simp only [Act.put, List.setIfInBounds_toArray, List.set_cons_zero, List.set_cons_succ, i64_w, i32_w]
          rfl
         refine pure_ (i := 11) (N := some 58) (v := undef) (a' := ?_) #[true, true, true, true, true, true, true, true, true, true, true, true, false, false] rfl rfl (any_of HT_.out (by kernel_rfl)) (fun _ _ _ h => h) (Or.inr ⟨by rfl, rfl⟩) ?_ ?_
         rotate_left
         ·simp only [Act.put, List.setIfInBounds_toArray, List.set_cons_zero, List.set_cons_succ, i64_w, i32_w]
          rfl
         refine pure_ (i := 12) (N := some 59) (v := ?_) (a' := ?_) #[true, true, true, true, true, true, true, true, true, true, true, true, true, false] rfl rfl (any_of HT_.out (by kernel_rfl)) (fun _ _ _ h => h) (Or.inl ⟨by rfl, ?_⟩) ?_ ?_
         rotate_left
         ·intro w'
          go_simp
          with_reducible rfl
         rotate_left
         ·simp only [Act.put, List.setIfInBounds_toArray, List.set_cons_zero, List.set_cons_succ, i64_w, i32_w]
          rfl
         refine pure_ (i := 13) (N := some 4) (v := ?_) (a' := ?_) #[true, true, true, true, true, true, true, true, true, true, true, true, true, true] rfl rfl (any_of HT_.out (by kernel_rfl)) (fun _ _ _ h => h) (Or.inl ⟨by rfl, ?_⟩) ?_ ?_
         rotate_left
         ·intro w'
          go_simp
          with_reducible rfl
         rotate_left
         ·simp only [Act.put, List.setIfInBounds_toArray, List.set_cons_zero, List.set_cons_succ, i64_w, i32_w]
          rfl
         refine done_ (done_of HT_.out (by kernel_rfl)) ?_
         try go_wp2
         go_ret
         exact ⟨by first | rfl | (simp [errW_none, errW_some] <;> rfl) | (simp [*, errW_none, errW_some] <;> rfl), by repeat (first | (with_reducible first | exact HB.out | apply below_alloc | apply pw_below_drewN | apply below_drew1 | refine below_set ?_ GE846.out | refine below_set ?_ GE847.out) | exact HB.out)⟩
       ·replace c54 := Bool.eq_false_iff.mpr c54
        subst c54
        have H1 : (some false) = some r := by rw [if_neg (show ¬ (false = true) by decide)] at H; exact H
        clear H
        have H := H1
        clear H1
        obtain rfl := Option.some.inj H
        try go_wp2_with (first | ((with_reducible refine gate_callee (f := 57) rfl ?_); refine goesL_ (some 46) rfl rfl Try.func57 (by kernel_rfl) rfl #[.int .u64 a0, .int .u64 a1] rfl (by (try simp only [List.map_toArray, List.map_cons, List.map_nil]); first | done | rfl | (simp only [List.length_drop, List.length_take]; rfl) | (simp only [*]; done)) ?_; (with_reducible refine (fsum_Sub.calls kj15 a0 a1 t865 _ A52.out).mono ?_); rintro e w79 ⟨rfl, hb⟩; refine ⟨_, rfl, ?_⟩; have n0_ := Aside0.mk (Kd.R_below (st HO_847001.out) hb); have n1_ := Aside0.mk (Kd.R_below (st HO_847002.out) hb); have n2_ := Aside0.mk (Kd.R_below (st HO_848001.out) hb); have n3_ := Aside0.mk (Kd.R_below (st HO_848002.out) hb); have n4_ := Aside0.mk (blk_below (bk BK846.out) hb); have n5_ := Aside0.mk (blk_below (bk BK847.out) hb); have n6_ := Aside0.mk (below_step (by repeat (first | (with_reducible first | exact HB.out | apply below_alloc | apply pw_below_drewN | apply below_drew1 | refine below_set ?_ GE846.out | refine below_set ?_ GE847.out) | exact HB.out)) hb); clear HO_847001; clear HO_847002; clear HO_848001; clear HO_848002; clear BK846; clear BK847; clear HB; have HO_847001 := n0_; have HO_847002 := n1_; have HO_848001 := n2_; have HO_848002 := n3_; have BK846 := n4_; have BK847 := n5_; have HB := n6_; clear n0_ n1_ n2_ n3_ n4_ n5_ n6_; (try clear hb); (try clear hb2); (try clear hk); (try clear hi)))
        have n0_ := Aside0.mk (Kd.R_drew HO_847001.out)
        have n1_ := Aside0.mk (Kd.R_drew HO_847002.out)
        have n2_ := Aside0.mk (Kd.R_drew HO_848001.out)
        have n3_ := Aside0.mk (Kd.R_drew HO_848002.out)
        have n4_ := Aside0.mk (blk_drew BK846.out)
        have n5_ := Aside0.mk (blk_drew BK847.out)
        have n6_ := Aside0.mk (below_drew1 HB.out)
        clear HO_847001
        clear HO_847002
        clear HO_848001
        clear HO_848002
        clear BK846
        clear BK847
        clear HB
        have HO_847001 := n0_
        have HO_847002 := n1_
        have HO_848001 := n2_
        have HO_848002 := n3_
        have BK846 := n4_
        have BK847 := n5_
        have HB := n6_
        clear n0_ n1_ n2_ n3_ n4_ n5_ n6_
        refine start_ (n := 14) (S := fun w' => True) (ds := []) #[false, false, false, false, false, false, false, false, false, false, false, false, false, false] (by kernel_rfl) rfl rfl trivial (fun hHeld => ?_); refine with_tabW gradinelaw11_FsumExact.tab7 gradinelaw11_FsumExact.bits7 (fun HT_ HW_ => ?_)
        generalize w79.drew = w80 at HO_847001 HO_847002 HO_848001 HO_848002 BK846 BK847 HB hHeld ⊢
        refine pure_ (i := 0) (N := some 47) (v := ?_) (a' := ?_) #[true, false, false, false, false, false, false, false, false, false, false, false, false, false] rfl rfl (any_of HT_.out (by kernel_rfl)) (fun _ _ _ h => h) (Or.inl ⟨by rfl, ?_⟩) ?_ ?_
        rotate_left
        ·intro w'
         go_simp
         with_reducible rfl
        rotate_left
        ·simp only [Act.put, List.setIfInBounds_toArray, List.set_cons_zero, List.set_cons_succ, i64_w, i32_w]
         rfl
        refine one_ (i := 1) (N := some 48) #[true, true, false, false, false, false, false, false, false, false, false, false, false, false] rfl rfl (one_of HT_.out (by kernel_rfl)) (by decide) (fun K hK => ?_)
        refine goes_ Try.func26 (by kernel_rfl) rfl #[.int .u64 t865] (by rfl) rfl rfl (by (try simp only [List.map_toArray, List.map_cons, List.map_nil]); first | done | rfl | (simp only [List.length_drop, List.length_take]; rfl) | (simp only [*]; done)) ?_
        with_reducible refine (gradineref09_Finite.calls t865 false _ A53.out).mono ?_
        rintro e w' ⟨rfl, ⟨nd, rfl⟩⟩
        refine ⟨_, rfl, ?_⟩
        refine hK.out _ _ trivial (fun hHeld => ?_)
        clear hK K
        refine norm_ (a' := ?_) ?_ ?_
        rotate_left
        ·show Act.put _ (some 48) _ = _
         simp only [Act.put, List.setIfInBounds_toArray, List.set_cons_zero, List.set_cons_succ, i64_w, i32_w]
         rfl
        refine pure_ (i := 2) (N := some 49) (v := ?_) (a' := ?_) #[true, true, true, false, false, false, false, false, false, false, false, false, false, false] rfl rfl (any_of HT_.out (by kernel_rfl)) (fun _ _ _ h => h) (Or.inl ⟨by rfl, ?_⟩) ?_ ?_
        rotate_left
        ·intro w'
         go_simp
         with_reducible rfl
        rotate_left
        ·simp only [Act.put, List.setIfInBounds_toArray, List.set_cons_zero, List.set_cons_succ, i64_w, i32_w]
         rfl
        refine pure_ (i := 3) (N := some 50) (v := undef) (a' := ?_) #[true, true, true, true, false, false, false, false, false, false, false, false, false, false] rfl rfl (any_of HT_.out (by kernel_rfl)) (fun _ _ _ h => h) (Or.inr ⟨by rfl, rfl⟩) ?_ ?_
        rotate_left
        ·simp only [Act.put, List.setIfInBounds_toArray, List.set_cons_zero, List.set_cons_succ, i64_w, i32_w]
         rfl
        refine pure_ (i := 4) (N := some 51) (v := undef) (a' := ?_) #[true, true, true, true, true, false, false, false, false, false, false, false, false, false] rfl rfl (any_of HT_.out (by kernel_rfl)) (fun _ _ _ h => h) (Or.inr ⟨by rfl, rfl⟩) ?_ ?_
        rotate_left
        ·simp only [Act.put, List.setIfInBounds_toArray, List.set_cons_zero, List.set_cons_succ, i64_w, i32_w]
         rfl
        refine pure_ (i := 5) (N := some 52) (v := undef) (a' := ?_) #[true, true, true, true, true, true, false, false, false, false, false, false, false, false] rfl rfl (any_of HT_.out (by kernel_rfl)) (fun _ _ _ h => h) (Or.inr ⟨by rfl, rfl⟩) ?_ ?_
        rotate_left
        ·simp only [Act.put, List.setIfInBounds_toArray, List.set_cons_zero, List.set_cons_succ, i64_w, i32_w]
         rfl
        refine pure_ (i := 6) (N := some 53) (v := undef) (a' := ?_) #[true, true, true, true, true, true, true, false, false, false, false, false, false, false] rfl rfl (any_of HT_.out (by kernel_rfl)) (fun _ _ _ h => h) (Or.inr ⟨by rfl, rfl⟩) ?_ ?_
        rotate_left
        ·simp only [Act.put, List.setIfInBounds_toArray, List.set_cons_zero, List.set_cons_succ, i64_w, i32_w]
         rfl
        refine pure_ (i := 7) (N := some 54) (v := undef) (a' := ?_) #[true, true, true, true, true, true, true, true, false, false, false, false, false, false] rfl rfl (any_of HT_.out (by kernel_rfl)) (fun _ _ _ h => h) (Or.inr ⟨by rfl, rfl⟩) ?_ ?_
        rotate_left
        ·simp only [Act.put, List.setIfInBounds_toArray, List.set_cons_zero, List.set_cons_succ, i64_w, i32_w]
         rfl
        refine pure_ (i := 8) (N := some 55) (v := undef) (a' := ?_) #[true, true, true, true, true, true, true, true, true, false, false, false, false, false] rfl rfl (any_of HT_.out (by kernel_rfl)) (fun _ _ _ h => h) (Or.inr ⟨by rfl, rfl⟩) ?_ ?_
        rotate_left
        ·simp only [Act.put, List.setIfInBounds_toArray, List.set_cons_zero, List.set_cons_succ, i64_w, i32_w]
         rfl
        refine pure_ (i := 9) (N := some 56) (v := ?_) (a' := ?_) #[true, true, true, true, true, true, true, true, true, true, false, false, false, false] rfl rfl (any_of HT_.out (by kernel_rfl)) (fun _ _ _ h => h) (Or.inl ⟨by rfl, ?_⟩) ?_ ?_
        rotate_left
        ·intro w'
         go_simp
         with_reducible rfl
        rotate_left
        ·simp only [Act.put, List.setIfInBounds_toArray, List.set_cons_zero, List.set_cons_succ, i64_w, i32_w]
         rfl
        refine pure_ (i := 10) (N := some 57) (v := ?_) (a' := ?_) #[true, true, true, true, true, true, true, true, true, true, true, false, false, false] rfl rfl (any_of HT_.out (by kernel_rfl)) (fun _ _ _ h => h) (Or.inl ⟨by rfl, ?_⟩) ?_ ?_
        rotate_left
        ·intro w'
         go_simp
         with_reducible rfl
        rotate_left
        ·simp only [Act.put, List.setIfInBounds_toArray, List.set_cons_zero, List.set_cons_succ, i64_w, i32_w]
         rfl
        refine pure_ (i := 11) (N := some 58) (v := undef) (a' := ?_) #[true, true, true, true, true, true, true, true, true, true, true, true, false, false] rfl rfl (any_of HT_.out (by kernel_rfl)) (fun _ _ _ h => h) (Or.inr ⟨by rfl, rfl⟩) ?_ ?_
        rotate_left
        ·simp only [Act.put, List.setIfInBounds_toArray, List.set_cons_zero, List.set_cons_succ, i64_w, i32_w]
         rfl
        refine pure_ (i := 12) (N := some 59) (v := ?_) (a' := ?_) #[true, true, true, true, true, true, true, true, true, true, true, true, true, false] rfl rfl (any_of HT_.out (by kernel_rfl)) (fun _ _ _ h => h) (Or.inl ⟨by rfl, ?_⟩) ?_ ?_
        rotate_left
        ·intro w'
         go_simp
         with_reducible rfl
        rotate_left
        ·simp only [Act.put, List.setIfInBounds_toArray, List.set_cons_zero, List.set_cons_succ, i64_w, i32_w]
         rfl
        refine pure_ (i := 13) (N := some 4) (v := ?_) (a' := ?_) #[true, true, true, true, true, true, true, true, true, true, true, true, true, true] rfl rfl (any_of HT_.out (by kernel_rfl)) (fun _ _ _ h => h) (Or.inl ⟨by rfl, ?_⟩) ?_ ?_
        rotate_left
        ·intro w'
         go_simp
         with_reducible rfl
        rotate_left
        ·simp only [Act.put, List.setIfInBounds_toArray, List.set_cons_zero, List.set_cons_succ, i64_w, i32_w]
         rfl
        refine done_ (done_of HT_.out (by kernel_rfl)) ?_
        try go_wp2
        go_ret
        exact ⟨by first | rfl | (simp [errW_none, errW_some] <;> rfl) | (simp [*, errW_none, errW_some] <;> rfl), by repeat (first | (with_reducible first | exact HB.out | apply below_alloc | apply pw_below_drewN | apply below_drew1 | refine below_set ?_ GE846.out | refine below_set ?_ GE847.out) | exact HB.out)⟩

def gradinelaw11_FsumExact.Pure : Prop := ∀ (a0 : Int) (a1 : Int), (Lit.int .u64 a0).wf = true → (Lit.int .u64 a1).wf = true → ∃ k, gradinelaw11_FsumExact.f k a0 a1 = some true
theorem gradinelaw11_FsumExact.walk (P : gradinelaw11_FsumExact.Pure) (a0 : Int) (a1 : Int) (w : World) (w0 : (Lit.int .u64 a0).wf = true) (w1 : (Lit.int .u64 a1).wf = true) :
  Calls Try.prog 13 #[.int .u64 a0, .int .u64 a1] w fun e w' => e = .returned (.bool true) ∧ Below w.heap.size w w' := by
 obtain ⟨k, h⟩ := P a0 a1 w0 w1
 refine (gradinelaw11_FsumExact.calls k a0 a1 true w h).mono ?_
 rintro e w' ⟨rfl, hd⟩
 exact ⟨rfl, hd⟩

end Go.Proofs.Ytbpggonjcnakgaa.P
