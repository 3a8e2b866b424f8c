/- What the functions answer, over plain numbers. -/
import Derived.Test.YtldcgclbgbhffaaCCa
import Derived.Test.YtldcgclbgbhffaaBpower
import Derived.Test.YtldcgclbgbhffaaBdigit
import Derived.Test.YtldcgclbgbhffaaBgradineplain
import Derived.Test.YtldcgclbgbhffaaFgradinelaw08same
import Derived.Test.YtldcgclbgbhffaaFgradinelaw08right
section
namespace Go.Proofs.Ytldcgclbgbhffaa.M
open Go.RowKit Go.Proofs.Ytldcgclbgbhffaa.P Go.Proofs.YtldcgclbgbhffaaW.PrintWords Go.Proofs.YtldcgclbgbhffaaW.PrintLast Go.Proofs.YtldcgclbgbhffaaW.PrintMore
set_option linter.unusedVariables false

theorem gc_pow {a b : Int} (ha : 0 ≤ a) (hb : 0 ≤ b) (h : gc a b = 1) (n : Nat) : gc (a ^ n) (b ^ n) = 1 := by
  obtain ⟨x, rfl⟩ := Int.eq_ofNat_of_zero_le ha
  obtain ⟨y, rfl⟩ := Int.eq_ofNat_of_zero_le hb
  rw [gc_nat] at h
  have h1 : Nat.Coprime x y := by show Nat.gcd x y = 1; omega
  have h2 : Nat.gcd (x ^ n) (y ^ n) = 1 := Nat.Coprime.pow n n h1
  rw [← Int.natCast_pow, ← Int.natCast_pow, gc_nat, h2]
  rfl
def val (q : Bool × List Int × List Int) : Bool × List Int × List Int × Int := (q.1, q.2.1, q.2.2, 0)
theorem Rq_lowest {N E : Int} (s : Bool) (hN : 0 ≤ N) (hE : 0 < E) (hg : gc N E = 1) : Rq (sgI s N) E = (s && decide (0 < N), dg N, dg E) := by
  by_cases h : 0 < N
  · rw [Rq_of s h, hg, Int.ediv_one, Int.ediv_one, decide_eq_true h, Bool.and_true]
  · have h0 : N = 0 := by omega
    subst h0
    rw [gc_comm, gc_zero (by omega)] at hg
    rw [Rq_zero, hg, decide_eq_false h, Bool.and_false]
    rfl
theorem sgI_pow (s : Bool) (N : Int) : ∀ m : Nat, (sgI s N) ^ m = sgI (s && decide (m % 2 = 1)) (N ^ m)
  | 0 => by unfold sgI; simp
  | m + 1 => by
    rw [Int.pow_succ, sgI_pow s N m, Int.pow_succ]
    unfold sgI
    cases s
    · simp
    · rcases (show m % 2 = 0 ∨ m % 2 = 1 by omega) with h | h
      · rw [h, show (m + 1) % 2 = 1 by omega]; simp [Int.mul_neg]
      · rw [h, show (m + 1) % 2 = 0 by omega]; simp [Int.mul_neg, Int.neg_mul]
theorem Rq_pow {S D N E : Int} (hD : 0 < D) (hq : Rq S D = (decide (S < 0), dg N, dg E)) (hN : 0 ≤ N) (hE : 0 < E) (e : sgI (decide (S < 0)) N * D = S * E) (hg : gc N E = 1) (m : Nat) :
    Rq (S ^ m) (D ^ m) = (decide (S < 0) && decide (m % 2 = 1) && decide (0 < N ^ m), dg (N ^ m), dg (E ^ m)) := by
  have hDm : 0 < D ^ m := Int.pow_pos hD
  have hEm : 0 < E ^ m := Int.pow_pos hE
  have hNm : 0 ≤ N ^ m := Int.pow_nonneg hN
  rw [← Rq_lowest _ hNm hEm (gc_pow hN (by omega) hg m), ← sgI_pow]
  refine Rq_eq hDm hEm ?_
  rw [← Int.mul_pow, ← Int.mul_pow, e]
theorem rq_parts {n S D : Int} (h : Fb n S D) : ∃ N E : Int, Rq S D = (decide (S < 0), dg N, dg E) ∧ 0 ≤ N ∧ 0 < E ∧ bl N ≤ n ∧ bl E ≤ n ∧ sgI (decide (S < 0)) N * D = S * E ∧ (N = 0 ↔ S = 0) ∧ gc N E = 1 ∧ N * D = ab S * E := by
  obtain ⟨N, E, h1, h2, h3, h4, h5, h6, h7, h8⟩ := Rq_spec S h.1
  have b1 := bl_mono h4
  have b2 := bl_mono h5
  have hh := h.2
  exact ⟨N, E, h1, h2, h3, by omega, by omega, Rq_signed h6 h7, h7, h8, h6⟩
theorem power_Abs_c {S D : Int} (h : Fit S D) : Ev (fun k => power_Abs.f k (Rq S D).1 (Rq S D).2.1 (Rq S D).2.2) (Rq (ab S) D) := by
  refine Ev.bind (rat_Sgn_c h) ?_
  by_cases hs : S < 0
  · refine Ev.ifp (by unfold sgnI; rw [if_neg (by omega), if_pos hs]; decide) (Ev.bind (rat_Neg_c h) (Ev.same ?_))
    rw [show ab S = -S by unfold ab; rw [if_pos hs]]
  · refine Ev.ifn (by unfold sgnI; split <;> (try split) <;> omega) (Ev.bind (rat_Neg_c h) (Ev.bind (rat_Neg_c (Fit_neg h)) (Ev.same ?_)))
    rw [show ab S = S by unfold ab; rw [if_neg hs], Int.neg_neg]
theorem power_Bits_c {N E : Int} (s : Bool) (hN : 0 ≤ N) (hE : 0 ≤ E) (bN : bl N ≤ 60000) (bE : bl E ≤ 60000) : Ev (fun k => power_Bits.f k s (dg N) (dg E)) (mx (bl N) (bl E)) := by
  have A := nat_Bits_c (l := dg N) (Wl_dg (by omega))
  have B := nat_Bits_c (l := dg E) (Wl_dg (by omega))
  rw [nv_dg hN] at A
  rw [nv_dg hE] at B
  exact Ev.bind A (Ev.bind B (Ev.same rfl))
theorem ediv_of {x q r e : Int} (he : 0 < e) (h : x = e * q + r) (h0 : 0 ≤ r) (h1 : r < e) : x / e = q := ((Int.ediv_emod_unique he).2 ⟨by rw [h, Int.add_comm], h0, h1⟩).1
/-- A fraction's floor, by its parts. -/
theorem floor_parts {S D N E : Int} (hD : 0 < D) (hE : 0 < E) (e : sgI (decide (S < 0)) N * D = S * E) : S / D = sgI (decide (S < 0)) N / E := by
  rw [← Int.mul_ediv_mul_of_pos_left S D hE, ← e, Int.mul_comm D E, Int.mul_ediv_mul_of_pos_left _ _ hD]
theorem floor_neg {N E : Int} (hE : 0 < E) : (-N) / E = if N % E = 0 then -(N / E) else -(N / E + 1) := by
  have h1 := Int.mul_ediv_add_emod N E
  have h2 := Int.emod_nonneg N (show E ≠ 0 by omega)
  have h3 := Int.emod_lt_of_pos N hE
  split
  · rename_i h
    exact ediv_of (r := 0) hE (by rw [Int.mul_neg]; omega) (by omega) hE
  · rename_i h
    exact ediv_of (r := E - N % E) hE (by rw [Int.mul_neg, Int.mul_add]; omega) (by omega) (by omega)
theorem Rq_int (s : Bool) {m : Int} (hm : 0 ≤ m) : Rq (sgI s m) 1 = (s && decide (0 < m), dg m, [1]) := by
  have := Rq_lowest s hm (E := 1) (by omega) (gc_one hm)
  rw [this, dg_one]
theorem dg_len_pos {x : Int} (hx : 0 ≤ x) : (((dg x).length : Int) > 0) ↔ 0 < x := by
  constructor
  · intro h
    have : x ≠ 0 := fun q => by rw [q, dg_zero] at h; simp at h
    omega
  · intro h
    rw [dg_pos h]
    simp only [List.length_cons]
    omega
theorem power_Floor_c {n S D : Int} (h : Fb n S D) (hn : n ≤ 14000) : Ev (fun k => power_Floor.f k (Rq S D).1 (Rq S D).2.1 (Rq S D).2.2) (Rq (S / D) 1) := by
  obtain ⟨N, E, h1, h2, h3, h4, h5, h6, h7, h8, h9⟩ := rq_parts h
  have Q := quot_Div_c (a := dg N) (b := dg E) (Wl_dg (by omega)) (Wl_dg (by omega)) (by have := dg_len_bl N; omega)
  rw [nv_dg h2, nv_dg (Int.le_of_lt h3), if_neg (by omega)] at Q
  have q0 : 0 ≤ N / E := Int.ediv_nonneg h2 (by omega)
  have r0 : 0 ≤ N % E := Int.emod_nonneg N (by omega)
  have ql : N / E ≤ N := Int.ediv_le_self E h2
  have bq := bl_mono ql
  have O := nat_Of_c (x := 1) (by unfold U; omega)
  have A := nat_Add_c (a := dg (N / E)) (b := dg 1) (Wl_dg (by omega)) (Wl_dg (by decide)) (by have := dg_len_bl (N / E); omega) (by decide)
  rw [nv_dg q0, nv_dg (by omega)] at A
  rw [floor_parts h.1 h3 h6, h1]
  refine Ev.bind Q (Ev.ifp rfl ?_)
  by_cases hs : S < 0
  · rw [decide_eq_true hs]
    refine Ev.ifp rfl ?_
    rw [show sgI true N = -N from rfl, floor_neg h3]
    by_cases hr : N % E = 0
    · rw [if_pos hr, hr]
      refine Ev.eqv (fun k => power_Floor.j0.eq_1 ..) (Ev.ifn Bool.false_ne_true (Ev.ifp rfl (Ev.bind O (Ev.same ?_))))
      rw [show -(N / E) = sgI true (N / E) from rfl, Rq_int true q0, decide_eq_decide.2 (dg_len_pos q0)]
      rfl
    · rw [if_neg hr]
      refine Ev.eqv (fun k => power_Floor.j0.eq_1 ..) (Ev.ifp (decide_eq_true ((dg_len_pos r0).2 (by omega))) (Ev.bind O (Ev.bind A (Ev.ifp rfl (Ev.bind O (Ev.same ?_))))))
      rw [show -(N / E + 1) = sgI true (N / E + 1) from rfl, Rq_int true (by omega), decide_eq_decide.2 (dg_len_pos (by omega))]
      rfl
  · rw [decide_eq_false hs]
    refine Ev.ifn Bool.false_ne_true (Ev.eqv (fun k => power_Floor.j0.eq_1 ..) (Ev.ifn Bool.false_ne_true (Ev.ifn Bool.false_ne_true (Ev.bind O (Ev.same ?_)))))
    rw [show sgI false N / E = sgI false (N / E) from rfl, Rq_int false q0]
    rfl
/-- What a power answers. -/
def PW (S D n : Int) : Bool × List Int × List Int × Int := if n > 64 ∨ n < -64 then (false, [], [], 1) else if n < 0 then (if S = 0 then (false, [], [], 4) else val (Rq (IS S D ^ (-n).toNat) (ab S ^ (-n).toNat))) else val (Rq (S ^ n.toNat) (D ^ n.toNat))
theorem tmod2 {n : Int} (h : 0 ≤ n) : Int.tmod n 2 = 1 ↔ n.toNat % 2 = 1 := by
  rw [Int.tmod_eq_emod_of_nonneg h]; omega
theorem power_Pow_pos {m S D n : Int} (h : Fb m S D) (hm : m ≤ 14000) (h0 : 0 ≤ n) (h1 : n ≤ 64) : Ev (fun k => power_Pow.f k (Rq S D).1 (Rq S D).2.1 (Rq S D).2.2 n) (val (Rq (S ^ n.toNat) (D ^ n.toNat))) := by
  obtain ⟨N, E, e1, e2, e3, e4, e5, e6, e7, e8, e9⟩ := rq_parts h
  have lN := dg_len_bl N
  have lE := dg_len_bl E
  have PN := prod_Pow_c (a := dg N) (Wl_dg (by omega)) (by omega) n
  have PE := prod_Pow_c (a := dg E) (Wl_dg (by omega)) (by omega) n
  rw [nv_dg e2, pown_of h0 h1] at PN
  rw [nv_dg (Int.le_of_lt e3), pown_of h0 h1] at PE
  have Np : 0 ≤ N ^ n.toNat := Int.pow_nonneg e2
  rw [Rq_pow h.1 e1 e2 e3 e6 e8, e1]
  refine Ev.step (fun k => power_Pow.f.eq_2 ..) (Ev.ifn (by omega) (Ev.eqv (fun k => power_Pow.j0.eq_1 ..) (Ev.ifn (by rw [decide_eq_true_eq]; omega) (Ev.ifn (by omega) (Ev.bind PN ?_)))))
  by_cases hs : S < 0
  · rw [decide_eq_true hs]
    refine Ev.ifp rfl ?_
    by_cases ho : n.toNat % 2 = 1
    · refine Ev.ifp ((tmod2 h0).2 ho) (Ev.bind PE (Ev.same ?_))
      rw [decide_eq_true ho, decide_eq_decide.2 (dg_len_pos Np)]
      rfl
    · refine Ev.ifn (fun q => ho ((tmod2 h0).1 q)) (Ev.bind PE (Ev.same ?_))
      rw [decide_eq_false ho]
      rfl
  · rw [decide_eq_false hs]
    exact Ev.ifn Bool.false_ne_true (Ev.bind PE (Ev.same rfl))
theorem power_Pow_c {m S D : Int} (h : Fb m S D) (hm : m ≤ 14000) (n : Int) (hn : -9223372036854775808 ≤ n ∧ n ≤ 9223372036854775807) : Ev (fun k => power_Pow.f k (Rq S D).1 (Rq S D).2.1 (Rq S D).2.2 n) (PW S D n) := by
  unfold PW
  by_cases h1 : n > 64
  · rw [if_pos (Or.inl h1)]
    exact Ev.step (fun k => power_Pow.f.eq_2 ..) (Ev.ifp h1 (Ev.eqv (fun k => power_Pow.j0.eq_1 ..) (Ev.ifp rfl (Ev.same rfl))))
  · by_cases h2 : n < -64
    · rw [if_pos (Or.inr h2)]
      exact Ev.step (fun k => power_Pow.f.eq_2 ..) (Ev.ifn h1 (Ev.eqv (fun k => power_Pow.j0.eq_1 ..) (Ev.ifp (decide_eq_true h2) (Ev.same rfl))))
    · rw [if_neg (by omega)]
      by_cases h3 : n < 0
      · rw [if_pos h3]
        have I := rat_Inv_c (Fb_fit h hm)
        refine Ev.step (fun k => power_Pow.f.eq_2 ..) (Ev.ifn h1 (Ev.eqv (fun k => power_Pow.j0.eq_1 ..) (Ev.ifn (by rw [decide_eq_true_eq]; exact h2) (Ev.ifp h3 (Ev.bind I ?_)))))
        by_cases hz : S = 0
        · rw [if_pos hz, if_pos hz]
          exact Ev.ifn (by decide) (Ev.same rfl)
        · rw [if_neg hz, if_neg hz]
          have e : wrap64 (-n) = -n := w64_id (by omega) (by omega)
          have P := Ev.eqr (power_Pow_pos (n := wrap64 (-n)) (Fb_inv h hz) hm (by omega) (by omega)) (show _ = val (Rq (IS S D ^ (-n).toNat) (ab S ^ (-n).toNat)) by rw [e])
          exact Ev.ifp rfl (Ev.bind P (Ev.same rfl))
      · rw [if_neg h3]
        exact power_Pow_pos h hm (by omega) (by omega)
end Go.Proofs.Ytldcgclbgbhffaa.M
end
section
namespace Go.Proofs.Ytldcgclbgbhffaa.M
open Go.RowKit Go.Proofs.Ytldcgclbgbhffaa.P Go.Proofs.YtldcgclbgbhffaaW.PrintWords Go.Proofs.YtldcgclbgbhffaaW.PrintLast Go.Proofs.YtldcgclbgbhffaaW.PrintMore
set_option linter.unusedVariables false

instance (l : List Int) : Decidable (Tx l) := by unfold Tx Dd; infer_instance
/-- What reading a number answers. -/
def RD (l : List Int) : List Int × Int := if l.length > 400 then ([], 3) else if Tx l then (dg (dv l), 0) else ([], 2)
theorem digit_RD (s : ByteArray) : Ev (fun k => digit_Read.f k s) (RD (byt s)) := by
  unfold RD
  have := byt_len s
  by_cases h : (byt s).length > 400
  · rw [if_pos h]; exact digit_Read_long (by omega)
  · rw [if_neg h]
    by_cases t : Tx (byt s)
    · rw [if_pos t]; exact digit_Read_yes t (by omega)
    · rw [if_neg t]; exact digit_Read_no t (by omega)
theorem RD_ok (l : List Int) : Wl (RD l).1 ∧ (RD l).1.length ≤ 30 ∧ dg (nv (RD l).1) = (RD l).1 := by
  unfold RD
  split
  · exact ⟨⟨Ws_nil, by simp⟩, by simp, rfl⟩
  · split
    · rename_i h1 h2
      have r := dv_range h2.1
      have b := bl_ten l.length
      have b2 := bl_mono (Int.le_of_lt r.2)
      have b3 := dg_len_bl (dv l)
      exact ⟨Wl_dg (by omega), by show (dg (dv l)).length ≤ 30; omega, by rw [nv_dg r.1]⟩
    · exact ⟨⟨Ws_nil, by simp⟩, by simp, rfl⟩
/-- Where the first slash stands. -/
def tw : List Int → Nat
  | [] => 0
  | x :: l => if x = 47 then 0 else tw l + 1
theorem tw_le : ∀ l : List Int, tw l ≤ l.length
  | [] => Nat.le_refl _
  | x :: l => by unfold tw; have := tw_le l; split <;> simp only [List.length_cons] <;> omega
theorem tw_drop {l : List Int} {i : Nat} (h : i < l.length) : tw (l.drop i) = if rd l (i : Int) = 47 then 0 else tw (l.drop (i + 1)) + 1 := by
  rw [drop_rd h]; rfl
def hd (l : List Int) : List Int := l.take (tw l)
def tl (l : List Int) : List Int := if tw l < l.length then l.drop (tw l + 1) else [49]
theorem power_cut_l {s : ByteArray} {l : List Int} (hs : byt s = l) (hl : l.length ≤ 1000000) (d : Nat) : ∀ i : Nat, i + d = l.length →
    Ev (fun k => power_cut.l0 k s (l.length : Int) i) (if i + tw (l.drop i) < l.length then (s.extract 0 (i + tw (l.drop i)), s.extract (i + tw (l.drop i) + 1) s.size) else (s, ⟨#[49]⟩)) := by
  have hsz : s.size = l.length := by rw [← hs, byt_len]
  induction d with
  | zero =>
    intro i hi
    rw [List.drop_eq_nil_of_le (by omega), if_neg (by show ¬ (i + 0 < l.length); omega)]
    exact Ev.step (fun k => power_cut.l0.eq_2 ..) (Ev.ifn (by omega) (Ev.same rfl))
  | succ d ih =>
    intro i hi
    have hb : bt s (i : Int) = rd l (i : Int) := by rw [bt_byt, hs]
    have e : wrap64 ((i : Int) + 1) = ((i + 1 : Nat) : Int) := by rw [w64_id (by omega) (by omega)]; omega
    have I := ih (i + 1) (by omega)
    rw [tw_drop (by omega)]
    refine Ev.step (fun k => power_cut.l0.eq_2 ..) (Ev.ifp (by omega) (Ev.ifp (by omega) (Ev.ifp (by omega) ?_)))
    by_cases h : rd l (i : Int) = 47
    · rw [if_pos h, if_pos (show i + 0 < l.length by omega), Nat.add_zero]
      refine Ev.ifp (by rw [hb]; exact h) (Ev.ifp (by omega) (Ev.ifp (by omega) (Ev.ifp (by omega) (Ev.same ?_))))
      rw [e, Int.toNat_natCast, Int.toNat_natCast]
    · rw [if_neg h, show i + (tw (l.drop (i + 1)) + 1) = i + 1 + tw (l.drop (i + 1)) by omega]
      refine Ev.ifn (by rw [hb]; exact h) ?_
      rw [e]
      exact I
theorem power_cut_c {s : ByteArray} (hl : s.size ≤ 1000000) : ∃ a b, Ev (fun k => power_cut.f k s) (a, b) ∧ byt a = hd (byt s) ∧ byt b = tl (byt s) := by
  have hsz : s.size = (byt s).length := (byt_len s).symm
  have h := power_cut_l (s := s) rfl (by omega) (byt s).length 0 (by omega)
  rw [Nat.zero_add, List.drop_zero] at h
  have ht := tw_le (byt s)
  have h' : Ev (fun k => power_cut.f k s) (if tw (byt s) < (byt s).length then (s.extract 0 (tw (byt s)), s.extract (tw (byt s) + 1) s.size) else (s, ⟨#[49]⟩)) := by
    rw [← hsz] at h ⊢
    exact h
  unfold hd tl
  by_cases c : tw (byt s) < (byt s).length
  · rw [if_pos c] at h' ⊢
    refine ⟨_, _, h', ?_, ?_⟩
    · rw [byt_extract, List.drop_zero, Nat.sub_zero]
    · rw [byt_extract, List.take_of_length_le (by rw [List.length_drop]; omega)]
  · rw [if_neg c] at h' ⊢
    refine ⟨_, _, h', ?_, rfl⟩
    rw [List.take_of_length_le (by omega)]
/-- What reading a fraction answers. -/
def PR (neg : Bool) (l : List Int) : Bool × List Int × List Int × Int :=
  if (RD (hd l)).2 = 0 then (if (RD (tl l)).2 = 0 then (if nv (RD (tl l)).1 = 0 then (false, [], [], 4) else val (Rq (sgI neg (nv (RD (hd l)).1)) (nv (RD (tl l)).1))) else (false, [], [], (RD (tl l)).2)) else (false, [], [], (RD (hd l)).2)
def hasM (l : List Int) : Bool := decide (0 < l.length) && (rd l 0 == 45)
def body (l : List Int) : List Int := if hasM l = true then l.drop 1 else l
theorem power_Read_j {s : ByteArray} (neg : Bool) (hl : s.size ≤ 1000000) : Ev (fun k => power_Read.j1 k s neg) (PR neg (byt s)) := by
  obtain ⟨a, b, h1, h2, h3⟩ := power_cut_c hl
  have A := digit_RD a
  have B := digit_RD b
  rw [h2] at A
  rw [h3] at B
  have oa := RD_ok (hd (byt s))
  have ob := RD_ok (tl (byt s))
  have M := rat_Make_c neg oa.1 ob.1 (by omega) (by omega)
  unfold PR
  refine Ev.eqv (fun k => power_Read.j1.eq_1 ..) (Ev.bind h1 (Ev.bind A ?_))
  by_cases c1 : (RD (hd (byt s))).2 = 0
  · rw [if_pos c1]
    refine Ev.ifp c1 (Ev.bind B ?_)
    by_cases c2 : (RD (tl (byt s))).2 = 0
    · rw [if_pos c2]
      exact Ev.ifp c2 (Ev.bind M (Ev.same rfl))
    · rw [if_neg c2]
      exact Ev.ifn c2 (Ev.same rfl)
  · rw [if_neg c1]
    exact Ev.ifn c1 (Ev.same rfl)
theorem body_ext {s : ByteArray} (h : hasM (byt s) = true) : byt (s.extract 1 s.size) = body (byt s) ∧ 1 ≤ s.size := by
  have e := byt_len s
  have h' := h
  unfold hasM at h'
  simp only [Bool.and_eq_true, decide_eq_true_eq] at h'
  unfold body
  rw [if_pos h, byt_extract, List.take_of_length_le (by rw [List.length_drop]; omega)]
  exact ⟨rfl, by omega⟩
theorem extract_size_le (s : ByteArray) : (s.extract 1 s.size).size ≤ s.size := by
  have := byt_len (s.extract 1 s.size)
  rw [byt_extract, List.length_take, List.length_drop, byt_len] at this
  omega
theorem power_Read_c {s : ByteArray} (hl : s.size ≤ 1000000) : Ev (fun k => power_Read.f k s) (PR (hasM (byt s)) (body (byt s))) := by
  have e := byt_len s
  have J : Ev (fun k => power_Read.j0 k s (hasM (byt s))) (PR (hasM (byt s)) (body (byt s))) := by
    refine Ev.eqv (fun k => power_Read.j0.eq_1 ..) ?_
    by_cases h : hasM (byt s) = true
    · obtain ⟨h1, h2⟩ := body_ext h
      have := extract_size_le s
      have P := power_Read_j (s := s.extract 1 s.size) (hasM (byt s)) (by omega)
      rw [h1] at P
      exact Ev.ifp h (Ev.ifp (by omega) P)
    · have P := power_Read_j (s := s) (hasM (byt s)) hl
      refine Ev.ifn h (Ev.eqr P ?_)
      unfold body
      rw [if_neg h]
  by_cases h0 : (s.size : Int) > 0
  · have hs : hasM (byt s) = (bt s 0 == 45) := by
      have := bt_byt s 0
      unfold hasM
      rw [decide_eq_true (by omega), Bool.true_and]
      exact congrArg (· == (45 : Int)) this.symm
    rw [hs] at J ⊢
    exact Ev.ifp h0 (Ev.ifp (by omega) J)
  · have hs : hasM (byt s) = false := by unfold hasM; rw [decide_eq_false (by omega), Bool.false_and]
    rw [hs] at J ⊢
    exact Ev.ifn h0 J
end Go.Proofs.Ytldcgclbgbhffaa.M
end
section
namespace Go.Proofs.Ytldcgclbgbhffaa.M
open Go.RowKit Go.Proofs.Ytldcgclbgbhffaa.P Go.Proofs.YtldcgclbgbhffaaW.PrintWords Go.Proofs.YtldcgclbgbhffaaW.PrintLast Go.Proofs.YtldcgclbgbhffaaW.PrintMore
set_option linter.unusedVariables false

/-- A fraction's text. -/
def shw (s : Bool) (N E : Int) : List Int := (if s = true then [45] else []) ++ sh N ++ (if E = 1 then [] else 47 :: sh E)
theorem sh_len {N : Int} (hN : 0 ≤ N) : ((sh N).length : Int) ≤ bl N + 1 := by
  have h := ds_len_le (m := (bl N).toNat) hN (Int.lt_of_lt_of_le (bl_lt N) (two_ten _))
  have := bl_nonneg N
  unfold sh
  split
  · simp; omega
  · rw [List.length_reverse]; omega
theorem show_tail {S : Type} {t : List Int} {E : Int} (bE : bl E ≤ 60000) (hE : 0 ≤ E) (ht : t.length ≤ 1000000) (sz : t.length + 1 + (sh E).length ≤ 2000000) :
    (strOfNums t).size + 1 ≤ 9223372036854775807 ∧ (strOfNums t ++ (⟨#[47]⟩ : ByteArray)).size + (strOfNums (sh E)).size ≤ 9223372036854775807 ∧ (strOfNums t ++ (⟨#[47]⟩ : ByteArray)) ++ strOfNums (sh E) = strOfNums (t ++ 47 :: sh E) := by
  have e : (⟨#[47]⟩ : ByteArray) = strOfNums [47] := rfl
  have e2 : (strOfNums t ++ strOfNums [47]) ++ strOfNums (sh E) = strOfNums (t ++ 47 :: sh E) := by
    rw [strOfNums_app, strOfNums_app, List.append_assoc]; rfl
  refine ⟨by rw [strOfNums_size]; omega, ?_, by rw [e]; exact e2⟩
  rw [e, strOfNums_app, strOfNums_size, strOfNums_size, List.length_append]
  show t.length + 1 + _ ≤ _
  omega
theorem power_Show_j {t : List Int} {N E : Int} (s : Bool) (bE : bl E ≤ 14000) (hE : 0 < E) (ht : t.length ≤ 100000) : Ev (fun k => power_Show.j0 k (strOfNums t) s (dg N) (dg E)) (strOfNums (t ++ (if E = 1 then [] else 47 :: sh E))) := by
  have lE := dg_len_bl E
  have W := nat_Word_c (l := dg E) (Wl_dg (by omega))
  have D := digit_Show_c (a := dg E) (Wl_dg (by omega)) (by omega)
  rw [nv_dg (by omega)] at W D
  have le := sh_len (N := E) (by omega)
  obtain ⟨a1, a2, a3⟩ := show_tail (S := Unit) (t := t) (E := E) (by omega) (by omega) (by omega) (by omega)
  refine Ev.eqv (fun k => power_Show.j0.eq_1 ..) (Ev.bind W ?_)
  by_cases h : E < 18446744073709551616
  · rw [if_pos h]
    refine Ev.ifp rfl ?_
    by_cases h1 : E = 1
    · rw [if_pos h1, List.append_nil]
      exact Ev.ifp h1 (Ev.same rfl)
    · rw [if_neg h1]
      exact Ev.ifn h1 (Ev.ifp a1 (Ev.bind D (Ev.ifp a2 (Ev.same (congrArg some a3)))))
  · rw [if_neg h, if_neg (by omega)]
    exact Ev.ifn Bool.false_ne_true (Ev.ifp a1 (Ev.bind D (Ev.ifp a2 (Ev.same (congrArg some a3)))))
theorem minus_app (t : List Int) : (⟨#[45]⟩ : ByteArray) ++ strOfNums t = strOfNums ([45] ++ t) := by
  have e : (⟨#[45]⟩ : ByteArray) = strOfNums [45] := rfl
  rw [e, strOfNums_app]
theorem power_Show_c {S D N E : Int} (h : Fit S D) (e1 : Rq S D = (decide (S < 0), dg N, dg E)) (e2 : 0 ≤ N) (e3 : 0 < E) (e4 : bl N ≤ 14000) (e5 : bl E ≤ 14000) (e7 : N = 0 ↔ S = 0) : Ev (fun k => power_Show.f k (Rq S D).1 (Rq S D).2.1 (Rq S D).2.2) (strOfNums (shw (decide (S < 0)) N E)) := by
  have lN := dg_len_bl N
  have Dn := digit_Show_c (a := dg N) (Wl_dg (by omega)) (by omega)
  rw [nv_dg e2] at Dn
  have G := rat_Sgn_c h
  have le := sh_len e2
  rw [e1] at G ⊢
  unfold shw
  refine Ev.bind Dn (Ev.bind G ?_)
  by_cases hs : S < 0
  · rw [decide_eq_true hs, if_pos rfl]
    have J := power_Show_j (t := [45] ++ sh N) (N := N) (E := E) true e5 e3 (by rw [List.length_append]; simp; omega)
    rw [← minus_app] at J
    exact Ev.ifp (by unfold sgnI; rw [if_neg (by omega), if_pos hs]; decide) (Ev.ifp (by rw [strOfNums_size]; omega) J)
  · rw [decide_eq_false hs, if_neg Bool.false_ne_true, List.nil_append]
    exact Ev.ifn (by unfold sgnI; split <;> (try split) <;> omega) (power_Show_j false e5 e3 (by omega))
/-! ### Read again -/
theorem tw_Dd : ∀ {l m : List Int}, Dd l → tw (l ++ m) = l.length + tw m
  | [], m, _ => by simp
  | x :: l, m, h => by
    rw [Dd_cons] at h
    show (if x = 47 then 0 else tw (l ++ m) + 1) = _
    rw [if_neg (by omega), tw_Dd h.2]
    simp only [List.length_cons]; omega
theorem RD_sh {N : Int} (hN : 0 ≤ N) (hl : (sh N).length ≤ 400) : RD (sh N) = (dg N, 0) := by
  unfold RD
  rw [if_neg (by omega), if_pos (sh_Tx hN), dv_sh hN]
theorem sh_ne (N : Int) : ∃ x l, sh N = x :: l ∧ 48 ≤ x := by
  have h := sh_Dd N
  cases e : sh N with
  | nil =>
    unfold sh at e
    split at e
    · cases e
    · rename_i hN
      rw [ds_pos (by omega)] at e
      simp at e
  | cons x l => rw [e, Dd_cons] at h; exact ⟨x, l, rfl, h.1.1⟩
theorem PR_shw (s : Bool) {N E : Int} (hN : 0 ≤ N) (hE : 0 < E) (lN : (sh N).length ≤ 400) (lE : (sh E).length ≤ 400) :
    PR (hasM (shw s N E)) (body (shw s N E)) = val (Rq (sgI s N) E) := by
  have hb : hasM (shw s N E) = s ∧ body (shw s N E) = sh N ++ (if E = 1 then [] else 47 :: sh E) := by
    have hs : hasM (shw s N E) = s := by
      unfold hasM shw
      cases s
      · rw [if_neg Bool.false_ne_true, List.nil_append]
        obtain ⟨x, l, e, hx⟩ := sh_ne N
        rw [e]
        have : (rd (x :: l ++ (if E = 1 then [] else 47 :: sh E)) 0 == (45 : Int)) = false := by
          show (x == (45 : Int)) = false
          exact beq_false_of_ne (by omega)
        rw [this, Bool.and_false]
      · rw [if_pos rfl]
        rfl
    refine ⟨hs, ?_⟩
    unfold body
    rw [hs]
    unfold shw
    cases s
    · rw [if_neg Bool.false_ne_true, if_neg Bool.false_ne_true, List.nil_append]
    · rw [if_pos rfl, if_pos rfl]
      rfl
  rw [hb.1, hb.2]
  have ht : tw (sh N ++ (if E = 1 then [] else 47 :: sh E)) = (sh N).length := by
    rw [tw_Dd (sh_Dd N)]
    split <;> rfl
  have hh : hd (sh N ++ (if E = 1 then [] else 47 :: sh E)) = sh N := by unfold hd; rw [ht, List.take_left]
  have htl : RD (tl (sh N ++ (if E = 1 then [] else 47 :: sh E))) = (dg E, 0) := by
    unfold tl
    rw [ht]
    by_cases h1 : E = 1
    · subst h1
      rw [if_pos rfl, List.append_nil, if_neg (by omega)]
      rfl
    · rw [if_neg h1, if_pos (by simp), List.drop_append, List.drop_of_length_le (by omega), List.nil_append, show (sh N).length + 1 - (sh N).length = 1 by omega]
      exact RD_sh (by omega) lE
  unfold PR
  rw [hh, htl, RD_sh hN lN, if_pos rfl, if_pos rfl, nv_dg hN, nv_dg (by omega), if_neg (by omega)]
end Go.Proofs.Ytldcgclbgbhffaa.M
end
section
namespace Go.Proofs.Ytldcgclbgbhffaa.M
open Go.RowKit Go.Proofs.Ytldcgclbgbhffaa.P Go.Proofs.YtldcgclbgbhffaaW.PrintWords Go.Proofs.YtldcgclbgbhffaaW.PrintLast Go.Proofs.YtldcgclbgbhffaaW.PrintMore
set_option linter.unusedVariables false

theorem law08_same_c : Ev (fun k => gradinelaw08_same.f k) true := by
  have R := power_Read_c (s := ⟨#[45, 50, 47, 51]⟩) (by decide)
  have e : byt ⟨#[45, 50, 47, 51]⟩ = shw true 2 3 := by decide
  rw [e, PR_shw true (by omega) (by omega) (by decide) (by decide)] at R
  have q1 : Rq (sgI true 2) 3 = Rq (-2) 3 := rfl
  have q2 : Rq (-2) 3 = (decide ((-2 : Int) < 0), dg 2, dg 3) := by decide
  have q3 : Rq (-27) 8 = (decide ((-27 : Int) < 0), dg 27, dg 8) := by decide
  rw [q1] at R
  have P := power_Pow_c (m := 10) (S := -2) (D := 3) ⟨by omega, by decide, by decide⟩ (by omega) (-3) ⟨by omega, by omega⟩
  have e2 : PW (-2) 3 (-3) = val (Rq (-27) 8) := by decide
  rw [e2] at P
  have S1 := power_Show_c (S := -2) (D := 3) ⟨by omega, by decide, by decide⟩ q2 (by omega) (by omega) (by decide) (by decide) (by omega)
  have S2 := power_Show_c (S := -27) (D := 8) ⟨by omega, by decide, by decide⟩ q3 (by omega) (by omega) (by decide) (by decide) (by omega)
  have B := power_Bits_c (N := 27) (E := 8) (Rq (-27) 8).1 (by omega) (by omega) (by decide) (by decide)
  have B' : Ev (fun k => power_Bits.f k (Rq (-27) 8).1 (Rq (-27) 8).2.1 (Rq (-27) 8).2.2) (mx (bl 27) (bl 8)) := by rw [q3] at B ⊢; exact B
  refine Ev.bind R (Ev.bind P (Ev.ifp rfl (Ev.ifp rfl (Ev.bind S1 (Ev.ifp ?_ (Ev.bind S2 (Ev.ifp ?_ (Ev.bind B' (Ev.same (by decide))))))))))
  · rw [ByteArray.toList_eq, strOfNums_data]; decide
  · rw [ByteArray.toList_eq, strOfNums_data]; decide
theorem law08_right_c {a b : List Int} (neg : Bool) (ha : Ws a) (hb : Ws b) {n : Int} (hn : n ≤ 8) : ∃ r, Ev (fun k => gradinelaw08_right.f k neg a b n) r ∧ (r = true → ∃ S D, (neg, a, b) = Rq S D ∧ Fb (64 * n) S D) := by
  by_cases la : (a.length : Int) > n
  · exact ⟨false, Ev.bindc (a := true) (by unfold gradineplain_Long.f; rw [if_pos la]) (Ev.ifp rfl (Ev.same rfl)), by simp⟩
  · by_cases lb : (b.length : Int) > n
    · exact ⟨false, Ev.bindc (a := true) (by unfold gradineplain_Long.f; rw [if_neg la, decide_eq_true lb]) (Ev.ifp rfl (Ev.same rfl)), by simp⟩
    · obtain ⟨r, h1, h2⟩ := ref07_Right_c (a := a) (b := b) neg ⟨ha, by omega⟩ ⟨hb, by omega⟩ (by omega) (by omega)
      refine ⟨r, Ev.bindc (a := false) (by unfold gradineplain_Long.f; rw [if_neg la, decide_eq_false lb]) (Ev.ifn (by decide) (Ev.bind h1 (Ev.same rfl))), fun h => ?_⟩
      have hR := h2.1 h
      have ba := bl_nv ha
      have bb := bl_nv hb
      have na := nv_nonneg ha
      refine ⟨sgI neg (nv a), nv b, (RR_Rq ha hb hR).symm, RR_pos hb hR, ?_, by omega⟩
      have : ab (sgI neg (nv a)) = nv a := by unfold ab sgI; cases neg <;> simp <;> omega
      rw [this]
      omega
theorem ab_ab (x : Int) : ab (ab x) = ab x := by
  have := ab_nonneg x
  show (if ab x < 0 then -(ab x) else ab x) = ab x
  rw [if_neg (by omega)]
theorem Fit_floor {n S D : Int} (h : Fb n S D) (hn : n ≤ 13999) : Fit (S / D) 1 := by
  obtain ⟨N, E, h1, h2, h3, h4, h5, h6, h7, h8, h9⟩ := rq_parts h
  refine ⟨by omega, ?_, by decide⟩
  rw [floor_parts h.1 h3 h6]
  have q0 : 0 ≤ N / E := Int.ediv_nonneg h2 (by omega)
  have ql : N / E ≤ N := Int.ediv_le_self E h2
  have b2 := bl_add (m := 13999) h2 (show (0 : Int) ≤ 1 by omega) (by omega) (by decide)
  cases decide (S < 0)
  · have : ab (N / E) = N / E := by unfold ab; split <;> omega
    show bl (ab (N / E)) ≤ 14000
    rw [this]
    have := bl_mono ql
    omega
  · show bl (ab ((-N) / E)) ≤ 14000
    rw [floor_neg h3]
    have k : ab (if N % E = 0 then -(N / E) else -(N / E + 1)) ≤ N + 1 := by unfold ab; split <;> split <;> omega
    have := bl_mono k
    omega
theorem Fb_sub {n m S D S' D' : Int} (h : Fb n S D) (h' : Fb m S' D') : Fb (n + m + 1) (S * D' - S' * D) (D * D') := by
  have := Fb_add h (Fb_neg h')
  rw [Int.neg_mul] at this
  exact this
end Go.Proofs.Ytldcgclbgbhffaa.M
end
