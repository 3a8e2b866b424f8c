/- If two doubles are each at most twice the other one, their difference is exact. -/
import Derived.Test.YtbpggonjcnakgaaFgradinelaw11same
import Derived.Test.YtbpggonjcnakgaaS11
import Derived.Test.YtbpggonjcnakgaaC10t
import Derived.Test.YtbpggonjcnakgaaFgradinelaw11FsumExact
namespace Go.Proofs.Ytbpggonjcnakgaa.Pure
open Go.RowKit Go.Proofs.Ytbpggonjcnakgaa.P Go.Proofs.Ytbpggonjcnakgaa.M Go.Proofs.YtbpggonjcnakgaaW.PrintWords Go.Proofs.YtbpggonjcnakgaaW.PrintLast Go.Proofs.YtbpggonjcnakgaaW.PrintMore

theorem V_split (b l : Int) (h0 : -1074 ≤ l) (h1 : l ≤ pe b) : V b = pm b * 2 ^ (pe b - l).toNat * 2 ^ (l + 1074).toNat := by
  unfold V
  rw [Int.mul_assoc, ← Int.pow_add]
  congr 2
  omega
/-- The difference of two doubles, each at most twice the other one. -/
theorem exact_sub {a b : Int} (ha : U a) (hb : U b) (h1 : fx a ≠ 2047) (h2 : fx b ≠ 2047) (s1 : fs a = false) (s2 : fs b = false) (h3 : V a ≤ V b + V b) (h4 : V b ≤ V a + V a) : fx (fsub a b) ≠ 2047 ∧ SV (fsub a b) = V a - V b := by
  have ka := fk_eq a
  have kb := fk_eq b
  have k4 : fk b ≠ 4 := fun k => h2 (kb.1.1 k).1
  have k3 : fk b ≠ 3 := fun k => h2 (kb.2.1.1 k).1
  have j4 : fk a ≠ 4 := fun k => h1 (ka.1.1 k).1
  have j3 : fk a ≠ 3 := fun k => h1 (ka.2.1.1 k).1
  clear ka kb
  have m1 := fl_fk hb
  have p1 := pm_range a
  have p2 := pm_range b
  have q1 := pe_range a
  have q2 := pe_range b
  have e1 : fsub a b = fsF a (fl b) := by
    unfold fsub fadd
    rw [m1, if_neg (by omega), if_neg (by omega), if_neg j3, if_neg k3]
  obtain ⟨_, m2, m3⟩ := fl_more hb
  have m4 := (fl_parts hb).2.2
  have e2 : fl b = (b + 9223372036854775808) % 18446744073709551616 := fl_some k4
  rw [← e2] at m2 m3 m4
  rw [e1]
  unfold fsF
  rw [m2, m3, m4, s1, s2, if_neg (by decide)]
  have hl0 : -1074 ≤ min (pe a) (pe b) := by omega
  have hl1 : min (pe a) (pe b) ≤ 971 := by have := q1.2.2.1 h1; omega
  have va := V_split a (min (pe a) (pe b)) hl0 (by omega)
  have vb := V_split b (min (pe a) (pe b)) hl0 (by omega)
  have hsmall : pm a * 2 ^ (pe a - min (pe a) (pe b)).toNat < 9007199254740992 ∨ pm b * 2 ^ (pe b - min (pe a) (pe b)).toNat < 9007199254740992 := by
    rcases (show min (pe a) (pe b) = pe a ∨ min (pe a) (pe b) = pe b by omega) with h | h
    · left
      rw [h, show (pe a - pe a).toNat = 0 by omega, Int.pow_zero, Int.mul_one]
      exact p1.2
    · right
      rw [h, show (pe b - pe b).toNat = 0 by omega, Int.pow_zero, Int.mul_one]
      exact p2.2
  rw [va, vb] at h3 h4 ⊢
  have hp := pow_pos (min (pe a) (pe b) + 1074).toNat
  clear q1 q2 p1 p2 e1 e2 m1 m2 m3 m4 va vb
  generalize hlq : min (pe a) (pe b) = l at *
  generalize pm a * 2 ^ (pe a - l).toNat = X at *
  generalize pm b * 2 ^ (pe b - l).toNat = Y at *
  have g : ∀ x y : Int, x * 2 ^ (l + 1074).toNat ≤ y * 2 ^ (l + 1074).toNat → x ≤ y := by
    intro x y h
    rcases Int.lt_or_le y x with k | k
    · have := Int.mul_lt_mul_of_pos_right k hp
      omega
    · exact k
  have h3' : X ≤ Y + Y := g _ _ (by rw [Int.add_mul]; exact h3)
  have h4' : Y ≤ X + X := g _ _ (by rw [Int.add_mul]; exact h4)
  rcases Int.lt_trichotomy X Y with h | h | h
  · rw [if_neg (show ¬ X = Y by omega), if_neg (show ¬ X > Y by omega)]
    obtain ⟨x1, x2, x3, x4⟩ := V_exact (M := Y - X) (l := l) (by omega) (by omega) hl0 hl1
    have hr := Rd_range (Y - X) l
    have hw := sgn_parts (x := Rd (Y - X) l) hr.1 (by have := hr.2; unfold INF at this; omega) true
    have hw0 := sgn_parts (x := Rd (Y - X) l) hr.1 (by have := hr.2; unfold INF at this; omega) false
    have ew : sgn false (Rd (Y - X) l) = Rd (Y - X) l := rfl
    rw [ew] at hw0
    have e3 : fx (sgn true (Rd (Y - X) l)) = fx (Rd (Y - X) l) := by rw [hw.2.2.1, hw0.2.2.1]
    have e4 : fr (sgn true (Rd (Y - X) l)) = fr (Rd (Y - X) l) := by rw [hw.2.2.2, hw0.2.2.2]
    refine ⟨by rw [show (!false) = true from rfl, e3]; exact x1, ?_⟩
    have e5 : V (sgn true (Rd (Y - X) l)) = V (Rd (Y - X) l) := V_same (by unfold mw; rw [e3, e4])
    rw [show (!false) = true from rfl]
    unfold SV sgI
    rw [hw.2.1, if_pos rfl, e5, x3, Int.sub_mul]
    omega
  · subst h
    rw [if_pos rfl]
    exact ⟨by decide, by rw [Int.sub_self]; decide⟩
  · rw [if_neg (show ¬ X = Y by omega), if_pos (show X > Y from h)]
    obtain ⟨x1, x2, x3, x4⟩ := V_exact (M := X - Y) (l := l) (by omega) (by omega) hl0 hl1
    have ew : sgn false (Rd (X - Y) l) = Rd (X - Y) l := rfl
    rw [ew]
    refine ⟨x1, ?_⟩
    unfold SV sgI
    rw [x2, if_neg (by decide), x3, Int.sub_mul]
theorem FsumExact : gradinelaw11_FsumExact.Pure := by
  intro a b ha hb
  have ha : U a := wf_u64 ha
  have hb : U b := wf_u64 hb
  refine Ev.rounds ?_
  have done : Ev (fun k => (gradinelaw11_same.f k).bind fun t => some t) true := Ev.bind law11_same_c (Ev.same rfl)
  have j0t : Ev (fun k => gradinelaw11_FsumExact.j0 k a b true) true := Ev.step (fun k => gradinelaw11_FsumExact.j0.eq_2 ..) (Ev.ifp rfl done)
  refine Ev.bindc (ref09_Finite_c ha) ?_
  by_cases h1 : fx a = 2047
  · exact Ev.ifn (by simp [h1]) j0t
  · refine Ev.ifp (decide_eq_true h1) (Ev.bindc (ref09_Finite_c hb) ?_)
    by_cases h2 : fx b = 2047
    · exact Ev.ifn (by simp [h2]) j0t
    · refine Ev.ifp (decide_eq_true h2) (Ev.bindc (ref09_Neg_c ha) ?_)
      cases s1 : fs a
      · refine Ev.ifn (by decide) (Ev.bindc (ref09_Neg_c hb) ?_)
        cases s2 : fs b
        · -- both without a sign
          have e1 : SV a = V a := by unfold SV sgI; rw [s1]; rfl
          have e2 : SV b = V b := by unfold SV sgI; rw [s2]; rfl
          have hL := LL_pos
          have fa := fit_V a
          have fb := fit_V b
          have bLL : bl (LL * LL) ≤ 2150 := by
            have := bl_mul (Int.le_of_lt hL) (Int.le_of_lt hL)
            have := bl_LL
            omega
          have va := V_nonneg a
          have vb := V_nonneg b
          have ta := ref10_ToRat_c ha
          have tb := ref10_ToRat_c hb
          rw [e1] at fa ta
          rw [e2] at fb tb
          have dbl : ∀ x : Int, 0 ≤ x → bl x ≤ 2200 → Fit (x * LL + x * LL) (LL * LL) ∧ Rq (x * LL + x * LL) (LL * LL) = Rq (x + x) LL := by
            intro x hx hbx
            have hm : 0 ≤ x * LL := Int.mul_nonneg hx (Int.le_of_lt hL)
            have b1 := bl_mul hx (Int.le_of_lt hL)
            have b2 := bl_add hm hm (m := 3300) (by have := bl_LL; omega) (by have := bl_LL; omega)
            have ea : ab (x * LL + x * LL) = x * LL + x * LL := by unfold ab; rw [if_neg (by omega)]
            refine ⟨⟨Int.mul_pos hL hL, by rw [ea]; omega, by omega⟩, Rq_eq (Int.mul_pos hL hL) hL ?_⟩
            grind
          obtain ⟨fbb, ebb⟩ := dbl (V b) vb (bl_V b)
          obtain ⟨faa, eaa⟩ := dbl (V a) va (bl_V a)
          have cmp : ∀ x y : Int, sgnI (x * (LL * LL) - (y * LL + y * LL) * LL) > 0 ↔ y + y < x := by
            intro x y
            have e : x * (LL * LL) - (y * LL + y * LL) * LL = (x - (y + y)) * (LL * LL) := by grind
            rw [e]
            have hp := Int.mul_pos hL hL
            unfold sgnI
            by_cases hz : x - (y + y) = 0
            · rw [hz, Int.zero_mul, if_pos rfl]; omega
            · have n := neg_mul_iff (x - (y + y)) hp
              have hne : (x - (y + y)) * (LL * LL) ≠ 0 := fun k => (Int.mul_eq_zero.1 k).elim hz (by omega)
              rw [if_neg hne]
              by_cases hn : x - (y + y) < 0
              · rw [if_pos (n.2 hn)]; omega
              · rw [if_neg (fun k => hn (n.1 k))]; omega
          have j1 : ∀ t : Bool, (t = false → V a ≤ V b + V b ∧ V b ≤ V a + V a) → Ev (fun k => gradinelaw11_FsumExact.j1 k a b t (Rq (V a) LL).1 (Rq (V a) LL).2.1 (Rq (V a) LL).2.2 (Rq (V b) LL).1 (Rq (V b) LL).2.1 (Rq (V b) LL).2.2) true := by
            intro t ht
            refine Ev.step (fun k => gradinelaw11_FsumExact.j1.eq_2 ..) ?_
            cases t
            · obtain ⟨k1, k2⟩ := ht rfl
              obtain ⟨x1, x2⟩ := exact_sub ha hb h1 h2 s1 s2 k1 k2
              have hd : U (fsub a b) := fadd_U ha (fl_U b)
              refine Ev.ifn (by decide) (Ev.bind (fsum_Sub_c ha hb) (Ev.bindc (ref09_Finite_c hd) (Ev.ifp (decide_eq_true x1) ?_)))
              have td := ref10_ToRat_c hd
              have es : Rq (SV (fsub a b)) LL = Rq (V a * LL - V b * LL) (LL * LL) := by
                rw [x2]
                refine Rq_eq hL (Int.mul_pos hL hL) ?_
                grind
              have fd := fit_V (fsub a b)
              obtain ⟨N, E, r1, r2, r3, r4, r5, r6, r7⟩ := Rq_fit fd
              have lN := dg_len_bl N
              have lE := dg_len_bl E
              have S := ref07_Same_c (s := (Rq (SV (fsub a b)) LL).1) (s' := (Rq (V a * LL - V b * LL) (LL * LL)).1) (a := (Rq (SV (fsub a b)) LL).2.1) (b := (Rq (SV (fsub a b)) LL).2.2) (a' := (Rq (V a * LL - V b * LL) (LL * LL)).2.1) (b' := (Rq (V a * LL - V b * LL) (LL * LL)).2.2) (by rw [r1]; show (dg N).length ≤ _; omega) (by rw [r1]; show (dg E).length ≤ _; omega)
              refine Ev.bind td (Ev.bind (ref07_Sub_c fa fb) (Ev.bind S (Ev.ifp ?_ done)))
              rw [← es]
              exact decide_eq_true rfl
            · exact Ev.ifp rfl done
          refine Ev.step (fun k => gradinelaw11_FsumExact.j0.eq_2 ..) (Ev.ifn (by decide) (Ev.bind ta (Ev.bind tb (Ev.bind (ref07_Add_c fb fb) (Ev.bind (ref07_Cmp_c fa fbb) ?_)))))
          by_cases c1 : sgnI (V a * (LL * LL) - (V b * LL + V b * LL) * LL) > 0
          · exact Ev.ifp c1 (j1 true (fun k => by cases k))
          · refine Ev.ifn c1 (Ev.bind (ref07_Add_c fa fa) (Ev.bind (ref07_Cmp_c fb faa) (j1 _ (fun k => ?_))))
            have c2 := of_decide_eq_false k
            have i1 := cmp (V a) (V b)
            have i2 := cmp (V b) (V a)
            exact ⟨by omega, by omega⟩
        · exact j0t
      · exact Ev.ifp rfl j0t
end Go.Proofs.Ytbpggonjcnakgaa.Pure
