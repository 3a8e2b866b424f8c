/- The double that is nearest to any exact number, and the exact number that any double is: for numbers of up to 20 words. -/
import Derived.Test.YtjocbnjpjihpnaaBgradineplain
import Derived.Test.YtjocbnjpjihpnaaBgradineref07
import Derived.Test.YtjocbnjpjihpnaaCCb
import Derived.Test.YtjocbnjpjihpnaaCCa
import Derived.Test.YtjocbnjpjihpnaaFgradinelaw10right
namespace Go.Proofs.Ytjocbnjpjihpnaa.Pure
open Go.RowKit Go.Proofs.Ytjocbnjpjihpnaa.P Go.Proofs.Ytjocbnjpjihpnaa.M Go.Proofs.YtjocbnjpjihpnaaW.PrintWords Go.Proofs.YtjocbnjpjihpnaaW.PrintLast Go.Proofs.YtjocbnjpjihpnaaW.PrintMore

theorem law10_right_c {a b : List Int} (neg : Bool) (ha : Ws a) (hb : Ws b) : ∃ r, Ev (fun k => gradinelaw10_right.f k neg a b) r ∧ (r = true → a.length ≤ 20 ∧ b.length ≤ 20 ∧ RR neg a b) := by
  by_cases la : (a.length : Int) > 20
  · exact ⟨false, Ev.bindc (a := true) (by unfold gradineplain_Long.f; rw [if_pos la]) (Ev.ifp rfl (Ev.same rfl)), by simp⟩
  · by_cases lb : (b.length : Int) > 20
    · exact ⟨false, Ev.bindc (a := true) (by unfold gradineplain_Long.f; rw [if_neg la, decide_eq_true lb]) (Ev.ifp rfl (Ev.same rfl)), by simp⟩
    · obtain ⟨r, h1, h2⟩ := ref07_Right_c (a := a) (b := b) neg ⟨ha, by omega⟩ ⟨hb, by omega⟩ (by omega) (by omega)
      exact ⟨r, Ev.bindc (a := false) (by unfold gradineplain_Long.f; rw [if_neg la, decide_eq_false lb]) (Ev.ifn (by decide) (Ev.bind h1 (Ev.same rfl))), fun h => ⟨by omega, by omega, h2.1 h⟩⟩
theorem same_self (s : Bool) {a b : List Int} (ha : a.length ≤ 1000000) (hb : b.length ≤ 1000000) : Ev (fun k => gradineref07_Same.f k s a b s a b) true := by
  have h := ref07_Same_c (s := s) (s' := s) (a := a) (b := b) (a' := a) (b' := b) ha hb
  rw [decide_eq_true rfl] at h
  exact h
end Go.Proofs.Ytjocbnjpjihpnaa.Pure
