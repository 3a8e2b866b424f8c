/- What the reference's root answers: a bit more, and the root bit by bit. -/
import Derived.Test.YtldcgclbgbhffaaC02s
import Derived.Test.YtldcgclbgbhffaaC03q
import Derived.Test.YtldcgclbgbhffaaM2
import Derived.Test.YtldcgclbgbhffaaM1
import Derived.Test.YtldcgclbgbhffaaM9
import Derived.Test.YtldcgclbgbhffaaBgradineref04
namespace Go.Proofs.Ytldcgclbgbhffaa.M
open Go.RowKit Go.Proofs.Ytldcgclbgbhffaa.P Go.Proofs.YtldcgclbgbhffaaW.PrintWords Go.Proofs.YtldcgclbgbhffaaW.PrintLast Go.Proofs.YtldcgclbgbhffaaW.PrintMore
set_option linter.unusedVariables false

theorem rd_of_ge {l : List Int} {i : Nat} (h : l.length ≤ i) : rd l (i : Int) = 0 := rd_out h
/-- The word that holds a bit, with that bit. -/
theorem set_word {x : Int} (hx : U x) {b : Nat} (hb : b ≤ 63) (h0 : x / 2 ^ b % 2 = 0) : Go.bits .or .u64 x (2 ^ b) = x + 2 ^ b ∧ U (x + 2 ^ b) := by
  obtain ⟨hx0, hx1⟩ := hx
  have hp := pow_pos b
  have hp1 := pow_pos (b + 1)
  have hple : (2 : Int) ^ b ≤ 2 ^ 63 := pow_le_pow hb
  -- below and above the bit
  have hs := mod_split x (D := 2) hp
  rw [h0, Int.mul_zero, Int.zero_add] at hs
  rw [show (2 : Int) ^ b * 2 = 2 ^ (b + 1) from (Int.pow_succ ..).symm] at hs
  have hd := Int.mul_ediv_add_emod x (2 ^ (b + 1))
  have r0 := Int.emod_nonneg x (show (2 : Int) ^ b ≠ 0 by omega)
  have r1 := Int.emod_lt_of_pos x hp
  rw [hs] at hd
  have hA0 : 0 ≤ 2 ^ (b + 1) * (x / 2 ^ (b + 1)) := Int.mul_nonneg (by omega) (Int.ediv_nonneg hx0 (by omega))
  have hAm : 2 ^ (b + 1) * (x / 2 ^ (b + 1)) % 2 ^ (b + 1) = 0 := Int.mul_emod_right ..
  have hpp : (2 : Int) ^ (b + 1) * 2 ^ (63 - b) = 18446744073709551616 := by rw [← Int.pow_add, show b + 1 + (63 - b) = 64 by omega]; rfl
  have hq : x / 2 ^ (b + 1) < 2 ^ (63 - b) := by rw [Int.ediv_lt_iff_lt_mul hp1, Int.mul_comm, hpp]; exact hx1
  have htop := Int.mul_le_mul_of_nonneg_left (show x / 2 ^ (b + 1) + 1 ≤ 2 ^ (63 - b) by omega) (Int.le_of_lt hp1)
  rw [hpp, Int.mul_add, Int.mul_one] at htop
  have e2 : (2 : Int) ^ (b + 1) = 2 ^ b * 2 := Int.pow_succ ..
  generalize hA : 2 ^ (b + 1) * (x / 2 ^ (b + 1)) = A at *
  generalize hr : x % 2 ^ b = r at *
  have o1 : Go.bits .or .u64 A r = A + r := or_join (b + 1) _ _ hA0 hAm (by omega) r0 (by omega) (by omega)
  have o2 : Go.bits .or .u64 (2 ^ b) r = 2 ^ b + r := or_join b _ _ (by omega) (Int.emod_self) (by omega) r0 r1 (by omega)
  have o3 : Go.bits .or .u64 A (2 ^ b + r) = A + (2 ^ b + r) := or_join (b + 1) _ _ hA0 hAm (by omega) (by omega) (by omega) (by omega)
  refine ⟨?_, by unfold U; omega⟩
  obtain ⟨a, ha⟩ := Int.eq_ofNat_of_zero_le hA0
  obtain ⟨c, hc⟩ := Int.eq_ofNat_of_zero_le r0
  obtain ⟨p, hpn⟩ := Int.eq_ofNat_of_zero_le (Int.le_of_lt hp)
  have hor : ∀ u v : Nat, u < 2 ^ 64 → v < 2 ^ 64 → Go.bits .or .u64 (u : Int) (v : Int) = ((u ||| v : Nat) : Int) := fun u v hu hv => or_nat u v hu hv
  rw [ha, hc] at o1
  rw [hpn, hc] at o2
  have b1 := hor a c (by omega) (by omega)
  have b2 := hor p c (by omega) (by omega)
  rw [b1] at o1
  rw [b2] at o2
  rw [ha, hpn, hc, ← o2, hor a (p ||| c) (by omega) (by omega)] at o3
  rw [show x = A + r by omega, ha, hc, ← o1, hpn, hor (a ||| c) p (by omega) (by omega), Nat.or_assoc, Nat.or_comm c p, o3, o1, o2]
  omega
theorem tdiv64 (i : Nat) : Int.tdiv (i : Int) 64 = ((i / 64 : Nat) : Int) := by rw [Int.tdiv_eq_ediv_of_nonneg (by omega)]; omega
theorem tmod64 (i : Nat) : Int.tmod (i : Int) 64 = ((i % 64 : Nat) : Int) := by rw [Int.tmod_eq_emod_of_nonneg (by omega)]; omega
theorem w64_nat {n : Nat} (h : n ≤ 1000000000000) : wrap64 (n : Int) = n := w64_id (by omega) (by omega)
theorem wu_nat {n : Nat} (h : n ≤ 1000000000000) : IntKind.u64.wrap (n : Int) = n := wu_id (by omega) (by omega)
theorem w64_next {j : Nat} (h : j ≤ 1000000000000) : wrap64 ((j : Int) + 1) = ((j + 1 : Nat) : Int) := by rw [w64_id (by omega) (by omega)]; omega
theorem shl_bit {b : Nat} (hb : b ≤ 63) : shl .u64 1 (b : Int) = 2 ^ b := by
  have := pow_le_pow (a := b) (b := 63) (by omega)
  have := pow_pos b
  rw [shl_u _ _ (by omega), Int.toNat_natCast, Int.one_mul, Int.emod_eq_of_lt (by omega) (by omega)]
theorem nv_take_more (l : List Int) {i : Nat} (h : l.length ≤ i) : nv (l.take i) = nv l := by rw [List.take_of_length_le h]
theorem ref04_set_l {a : List Int} (ha : Wl a) {i : Nat} (hi : i ≤ 60000000) (hbit : nv a / 2 ^ i % 2 = 0) {n : Nat} (hn : a.length ≤ n) (hn2 : i / 64 < n) (hn3 : n ≤ 1000000000) (d : Nat) : ∀ (j : Nat) (out : List Int), j + d = n → out.length = j → Ws out → nv out = nv (a.take j) + (if i / 64 < j then 2 ^ i else 0) →
    ∃ r, Ev (fun k => gradineref04_set.l0 k a i out (n : Int) j) r ∧ Ws r ∧ r.length = n ∧ nv r = nv a + 2 ^ i := by
  induction d with
  | zero =>
    intro j out hj hlo hwo he
    obtain rfl : j = n := by omega
    refine ⟨out, Ev.step (fun k => gradineref04_set.l0.eq_2 ..) (Ev.ifn (by omega) (Ev.same rfl)), hwo, hlo, ?_⟩
    rw [he, nv_take_more a hn, if_pos hn2]
  | succ d ih =>
    intro j out hj hlo hwo he
    have hx : U (rd a (j : Int)) := U_rd ha.1 _
    -- the word that is put down
    have key : ∀ v : Int, U v → v = rd a (j : Int) + (if i / 64 = j then 2 ^ (i % 64) else 0) → ∃ r, Ev (fun k => gradineref04_set.l0 k a i (out ++ [v]) (n : Int) ((j + 1 : Nat) : Int)) r ∧ Ws r ∧ r.length = n ∧ nv r = nv a + 2 ^ i := by
      intro v hv hve
      refine ih (j + 1) (out ++ [v]) (by omega) (by rw [List.length_append, hlo]; rfl) (Ws_app.2 ⟨hwo, Ws_one hv⟩) ?_
      rw [nv_snoc, he, nv_take_next, hlo, hve]
      by_cases h1 : i / 64 = j
      · rw [if_pos h1, if_neg (show ¬ i / 64 < j by omega), if_pos (show i / 64 < j + 1 by omega)]
        have : (2 : Int) ^ i = Wp j * 2 ^ (i % 64) := by rw [Wp_two, ← Int.pow_add, show 64 * j + i % 64 = i by omega]
        rw [this, Int.mul_add]
        omega
      · rw [if_neg h1, Int.add_zero]
        by_cases h2 : i / 64 < j
        · rw [if_pos h2, if_pos (show i / 64 < j + 1 by omega)]
          omega
        · rw [if_neg h2, if_neg (show ¬ i / 64 < j + 1 by omega)]
          omega
    have hbl := bit_list ha.1 i
    rw [hbit] at hbl
    by_cases hin : j < a.length
    · by_cases h1 : i / 64 = j
      · have hw := set_word hx (b := i % 64) (by omega) (by rw [← h1]; exact hbl.symm)
        obtain ⟨r, hr, hr2⟩ := key _ hw.2 (by rw [if_pos h1])
        refine ⟨r, Ev.step (fun k => gradineref04_set.l0.eq_2 ..) (Ev.ifp (by omega) (Ev.ifp (by omega) (Ev.ifp (by omega) ?_))), hr2⟩
        rw [tdiv64, tmod64, w64_nat (by omega), wu_nat (by omega), shl_bit (by omega), hw.1, w64_next (by omega)]
        exact Ev.ifp (by omega) (Ev.ifp (by omega) (Ev.ifp (by omega) hr))
      · obtain ⟨r, hr, hr2⟩ := key (rd a (j : Int)) hx (by rw [if_neg h1]; omega)
        refine ⟨r, Ev.step (fun k => gradineref04_set.l0.eq_2 ..) (Ev.ifp (by omega) (Ev.ifp (by omega) (Ev.ifp (by omega) ?_))), hr2⟩
        rw [tdiv64, w64_nat (by omega), w64_next (by omega)]
        exact Ev.ifn (by omega) (Ev.ifp (by omega) hr)
    · have hz := rd_of_ge (l := a) (i := j) (by omega)
      by_cases h1 : i / 64 = j
      · have hw := set_word (x := 0) (by unfold U; omega) (b := i % 64) (by omega) (by rw [Int.zero_ediv]; rfl)
        obtain ⟨r, hr, hr2⟩ := key _ hw.2 (by rw [if_pos h1, hz])
        refine ⟨r, Ev.step (fun k => gradineref04_set.l0.eq_2 ..) (Ev.ifp (by omega) (Ev.ifn (by omega) ?_)), hr2⟩
        rw [tdiv64, tmod64, w64_nat (by omega), wu_nat (by omega), shl_bit (by omega), hw.1, w64_next (by omega)]
        exact Ev.ifp (by omega) (Ev.ifp (by omega) (Ev.ifp (by omega) hr))
      · obtain ⟨r, hr, hr2⟩ := key 0 (by unfold U; omega) (by rw [if_neg h1, hz]; omega)
        refine ⟨r, Ev.step (fun k => gradineref04_set.l0.eq_2 ..) (Ev.ifp (by omega) (Ev.ifn (by omega) ?_)), hr2⟩
        rw [tdiv64, w64_nat (by omega), w64_next (by omega)]
        exact Ev.ifn (by omega) (Ev.ifp (by omega) hr)
theorem ref04_set_c {a : List Int} (ha : Wl a) (hla : a.length ≤ 1000000) {i : Nat} (hi : i ≤ 60000000) (hbit : nv a / 2 ^ i % 2 = 0) :
    ∃ r, Ev (fun k => gradineref04_set.f k a i) r ∧ Ws r ∧ r.length = max a.length (i / 64 + 1) ∧ nv r = nv a + 2 ^ i := by
  have hm : mx (a.length : Int) (wrap64 ((wrap64 (Int.tdiv (i : Int) 64)) + 1)) = ((max a.length (i / 64 + 1) : Nat) : Int) := by
    rw [Int.tdiv_eq_ediv_of_nonneg (by omega), w64_id (n := (i : Int) / 64) (by omega) (by omega), w64_id (by omega) (by omega)]
    unfold mx
    split <;> omega
  have := ref04_set_l ha hi hbit (n := max a.length (i / 64 + 1)) (by omega) (by omega) (by omega) (max a.length (i / 64 + 1)) 0 [] (by omega) rfl Ws_nil (by rw [if_neg (by omega)]; rfl)
  unfold gradineref04_set.f
  rw [hm]
  exact this
end Go.Proofs.Ytldcgclbgbhffaa.M
