/- Words for walks over printed functions: those that are used here, as a program has laid them. -/
import Derived.Test.YtldcgclbgbhffaaWWa
section
namespace Go.Proofs.YtldcgclbgbhffaaW.Abs
open Go.RowKit Go.Proofs.YtldcgclbgbhffaaW.PrintWords Go.Proofs.YtldcgclbgbhffaaW.PrintLast Go.Proofs.YtldcgclbgbhffaaW.PrintMore
set_option linter.unusedVariables false
set_option linter.unusedSectionVars false

theorem run_cells_at {P : Program} (g : Nat) (t : TypeId) (o : Nat) : ∀ (vs : List Value) (i : Nat) (cur : List Value) (w : World), w.heap[g]? = some (.cells cur.toArray t (0, 0)) → o + i + vs.length ≤ cur.length → (∀ v ∈ vs, v.oneCell' = true) →
    ∃ w', (storeCells ⟨g, o, none⟩ vs i).run P w = .ok () w' ∧ w'.heap[g]? = some (.cells (cur.take (o + i) ++ vs ++ cur.drop (o + i + vs.length)).toArray t (0, 0)) ∧ w'.heap.size = w.heap.size ∧ (∀ q, q ≠ g → w'.heap[q]? = w.heap[q]?) ∧ w'.os = w.os ∧ w'.tape = w.tape ∧ w'.output = w.output
  | [], i, cur, w, hg, hl, _ => ⟨w, rfl, by simp [hg], rfl, fun _ _ => rfl, rfl, rfl, rfl⟩
  | v :: rest, i, cur, w, hg, hl, h1 => by
    have hl' : o + i < cur.length := by simp at hl; omega
    have hcell : w.cell? ⟨g, o + i, none⟩ = some cur[o + i] := by
      rw [blk_cell hg]; simp [hl']
    have hfr := blk_frozen hg (o + i)
    have hst : (store ((⟨g, o, none⟩ : Addr).add i) v).run P w = .ok () (w.setCell ⟨g, o + i, none⟩ v) := by
      rw [add_at, run_store P w _ v _ (h1 v (by simp)), hcell]
      simp [hfr]
    have hg2 : (w.setCell ⟨g, o + i, none⟩ v).heap[g]? = some (.cells (cur.set (o + i) v).toArray t (0, 0)) := by
      rw [blk_set hg]; simp
    obtain ⟨w', q1, q2, q3, q4, q5, q6, q7⟩ := run_cells_at (P := P) g t o rest (i + 1) (cur.set (o + i) v) (w.setCell ⟨g, o + i, none⟩ v) hg2 (by simp at hl ⊢; omega) (fun x hx => h1 x (by simp [hx]))
    refine ⟨w', ?_, ?_, ?_, fun q hq => (q4 q hq).trans (Below.heap_setCell _ _ _ _ hq), q5, q6, q7⟩
    · simp only [storeCells, Sem.run_bind, hst, Result.andThen_ok, q1]
    · rw [q2]
      congr 3
      apply List.ext_getElem?
      intro m
      simp only [List.getElem?_append, List.length_append, List.length_take, List.length_set, List.length_cons, List.getElem?_take, List.getElem?_drop, List.getElem?_set]
      simp only [List.length_cons] at hl
      rcases Nat.lt_trichotomy m (o + i) with hm | hm | hm
      · simp [show m < min (o + (i + 1)) cur.length + rest.length by omega, show m < min (o + (i + 1)) cur.length by omega, show m < o + (i + 1) by omega, show m < min (o + i) cur.length + (rest.length + 1) by omega, show m < min (o + i) cur.length by omega, show m < o + i by omega, show o + i ≠ m by omega]
      · subst hm
        simp [show o + i < min (o + (i + 1)) cur.length + rest.length by omega, show o + i < min (o + (i + 1)) cur.length by omega, show o + i < o + (i + 1) by omega, show o + i < min (o + i) cur.length + (rest.length + 1) by omega, show ¬ o + i < min (o + i) cur.length by omega, hl', show o + i - min (o + i) cur.length = 0 by omega]
      · by_cases hm2 : m < o + (i + 1) + rest.length
        · simp [show m < min (o + (i + 1)) cur.length + rest.length by omega, show ¬ m < min (o + (i + 1)) cur.length by omega, show m < min (o + i) cur.length + (rest.length + 1) by omega, show ¬ m < min (o + i) cur.length by omega, show m - min (o + i) cur.length = (m - min (o + (i + 1)) cur.length) + 1 by omega]
        · simp [show ¬ m < min (o + (i + 1)) cur.length + rest.length by omega, show ¬ m < min (o + i) cur.length + (rest.length + 1) by omega, show o + (i + 1) + rest.length + (m - (min (o + (i + 1)) cur.length + rest.length)) = o + i + (rest.length + 1) + (m - (min (o + i) cur.length + (rest.length + 1))) by omega]
          intro hc
          exact absurd hc (by omega)
    · rw [q3]; simp [World.setCell]
section
variable {P : Program} {Θ : Tab} {S : FuncId → Option FSpec} {k : Nat} {o : Oper} {U0 : Nat → Prop} {ν : Nat → Value} {tm : List AV} {hp : List AB} {w0 w : World} {a : Act} {R : Type} {K : AV → HC → Tree R} {r : R}
theorem Inv.turn (I : Inv U0 ν tm hp w0 a w) {j g : Nat} {b0 b : AB} {w' : World} (hb0 : hp[j]? = some b0) (hg0 : isGone b0 = false) (hg : isGone b = false) (hν : blk (ν j) = some g) (hs : w'.heap.size = w.heap.size) (hk : ∀ q, q ≠ g → w'.heap[q]? = w.heap[q]?)
    (hF : Below w0.heap.size w0 w') (hB : Move (Un U0 ν (lv hp)) w w' (Un U0 ν (lv hp)) → RelB U0 ν (lv hp) w0.heap.size w' j b) (d : Option Tmp) (v : Value) : Inv U0 ν (putT tm d .junk) (hp.set j b) w0 (a.put d v) w' := by
  have hj : lv hp j := ⟨b0, hb0, hg0⟩
  have el := lv_set hj hg
  have hlt := (List.getElem?_eq_some_iff.1 hb0).1
  have hun : Un U0 ν (lv hp) g := .inr ⟨j, hj, hν⟩
  have m : Move (Un U0 ν (lv hp)) w w' (Un U0 ν (lv hp)) := ⟨by omega, fun q _ hu => hk q (fun z => hu (z ▸ hun)), fun _ _ z => z⟩
  refine I.put d .junk v (by rw [el]; exact m) (by rw [el]; exact kp_refl) trivial (fun i b' h1 h2 => ?_) (by rw [el]; exact I.dis) hF
  rw [el]
  by_cases hij : j = i
  · subst hij
    rw [List.getElem?_set_self hlt] at h1
    injection h1 with h1
    subst h1
    exact hB m
  · rw [List.getElem?_set_ne hij] at h1
    refine (I.mem i b' h1 h2).move m kp_refl rfl fun q hq => hk q fun z => ?_
    subst z
    exact I.dis j i hij hj ⟨b', h1, h2⟩ q hν hq
def FzOk (hp : List AB) (l : List (Nat × AB)) : Prop := ∀ p ∈ l, ∃ e t xs, hp[p.1]? = some (.row e t xs) ∧ p.2 = .fro e t xs
theorem fzs_ok : ∀ (cs : List AC), FzOk hp (fzs hp cs)
  | [] => fun p h => by simp [fzs] at h
  | c :: cs => by
    intro p h
    cases c with
    | own j =>
      simp only [fzs] at h
      split at h
      · rename_i e t xs hb
        rcases List.mem_cons.1 h with rfl | h
        · exact ⟨e, t, xs, hb, rfl⟩
        · exact fzs_ok cs p h
      · exact fzs_ok cs p h
    | _ => exact fzs_ok cs p h
theorem FzOk.app {l l' : List (Nat × AB)} (h : FzOk hp l) (h' : FzOk hp l') : FzOk hp (l ++ l') := fun p q => (List.mem_append.1 q).elim (h p) (h' p)
theorem argFz_ok : ∀ (os : List Operand), FzOk hp (argFz hp tm os)
  | [] => fun p h => by simp [argFz] at h
  | o :: os => (fzs_ok _).app (argFz_ok os)
theorem chs_get : ∀ {l : List (Nat × AB)}, FzOk hp l → ∀ j, (chs l hp)[j]? = hp[j]? ∨ ∃ e t xs, hp[j]? = some (.row e t xs) ∧ (chs l hp)[j]? = some (.fro e t xs) ∧ inFz l j = true
  | [], _, j => .inl rfl
  | (i, b) :: l, h, j => by
    have ih := chs_get (l := l) (fun p q => h p (List.mem_cons_of_mem _ q))
    obtain ⟨e, t, xs, h1, h2⟩ := h (i, b) List.mem_cons_self
    have h1 : hp[i]? = some (.row e t xs) := h1
    have h2 : b = .fro e t xs := h2
    subst h2
    have hlt : i < (chs l hp).length := by
      rcases ih i with q | ⟨_, _, _, _, q, _⟩
      · rw [h1] at q; exact (List.getElem?_eq_some_iff.1 q).1
      · exact (List.getElem?_eq_some_iff.1 q).1
    by_cases hij : i = j
    · subst hij
      exact .inr ⟨e, t, xs, h1, by simp [chs, hlt], by simp [inFz]⟩
    · simp only [chs, List.getElem?_set_ne hij]
      rcases ih j with q | ⟨e, t, xs, q1, q2, q3⟩
      · exact .inl q
      · exact .inr ⟨e, t, xs, q1, q2, by simp [inFz, q3]⟩
theorem chs_has {l : List (Nat × AB)} (h : FzOk hp l) {j : Nat} (hj : inFz l j = true) : ∃ e t xs, (chs l hp)[j]? = some (.fro e t xs) := by
  induction l with
  | nil => simp [inFz] at hj
  | cons p l ih =>
    obtain ⟨i, b⟩ := p
    have hl : FzOk hp l := fun p q => h p (List.mem_cons_of_mem _ q)
    obtain ⟨e, t, xs, h1, h2⟩ := h (i, b) List.mem_cons_self
    have h2 : b = .fro e t xs := h2
    have h1 : hp[i]? = some (.row e t xs) := h1
    subst h2
    have hlt : i < (chs l hp).length := by
      rcases chs_get hl i with q | ⟨_, _, _, _, q, _⟩
      · rw [h1] at q; exact (List.getElem?_eq_some_iff.1 q).1
      · exact (List.getElem?_eq_some_iff.1 q).1
    by_cases hij : i = j
    · subst hij
      exact ⟨e, t, xs, by simp [chs, hlt]⟩
    · simp [inFz, hij] at hj
      obtain ⟨e', t', xs', q⟩ := ih hl hj
      exact ⟨e', t', xs', by simp only [chs, List.getElem?_set_ne hij]; exact q⟩
theorem Inv.freezes (I : Inv U0 ν tm hp w0 a w) (hU : ∀ k, U0 k → k < w0.heap.size) : ∀ {l : List (Nat × AB)}, FzOk hp l → ∃ ν', Inv U0 ν' tm (chs l hp) w0 a w
  | [], _ => ⟨ν, I⟩
  | (i, b) :: l, h => by
    have hl : FzOk hp l := fun p q => h p (List.mem_cons_of_mem _ q)
    obtain ⟨ν', I'⟩ := I.freezes hU hl
    obtain ⟨e, t, xs, h1, h2⟩ := h (i, b) List.mem_cons_self
    have h2 : b = .fro e t xs := h2
    have h1 : hp[i]? = some (.row e t xs) := h1
    subst h2
    rcases chs_get hl i with q | ⟨e', t', xs', q1, q2, _⟩
    · exact ⟨_, I'.freeze1 hU (q.trans h1)⟩
    · rw [h1] at q1
      injection q1 with q1
      cases q1
      refine ⟨ν', ?_⟩
      have : (chs l hp).set i (.fro e t xs) = chs l hp := by
        apply List.ext_getElem?
        intro m
        by_cases hm : i = m
        · subst hm; rw [List.getElem?_set_self (List.getElem?_eq_some_iff.1 q2).1, q2]
        · rw [List.getElem?_set_ne hm]
      show Inv U0 ν' tm ((chs l hp).set i (.fro e t xs)) w0 a w
      rw [this]
      exact I'
theorem ownRow_frz {l : List (Nat × AB)} (h : FzOk hp l) (j : Nat) (e : TypeId) (t : Ty) : ownRow (chs l hp) j e t = ownRow hp j e t := by
  unfold ownRow
  rcases chs_get h j with q | ⟨e', t', xs, q1, q2, _⟩
  · rw [q]
  · rw [q1, q2]
theorem toT_congr {hp hp' : List AB} : ∀ {t : Ty} {cs : List AC}, (∀ j e t, AC.own j ∈ cs → ownRow hp j e t = ownRow hp' j e t) → toT hp t cs = toT hp' t cs ∧ ∀ x rest, toT hp t cs = some (x, rest) → ∀ c ∈ rest, c ∈ cs
  | .cons p q, cs, h => by
    obtain ⟨h1, h2⟩ := toT_congr (t := p) h
    simp only [toT, ← h1]
    cases hp1 : toT hp p cs with
    | none => exact ⟨rfl, fun x rest z => by cases z⟩
    | some y =>
      obtain ⟨x, cs'⟩ := y
      have hs := h2 x cs' hp1
      obtain ⟨h3, h4⟩ := toT_congr (t := q) (cs := cs') fun j e t hj => h j e t (hs _ hj)
      dsimp only
      rw [← h3]
      cases hp2 : toT hp q cs' with
      | none => exact ⟨rfl, fun x rest z => by cases z⟩
      | some y =>
        obtain ⟨x2, cs2⟩ := y
        refine ⟨rfl, fun x' rest z c hc => hs c (h4 x2 cs2 hp2 c ?_)⟩
        injection z with z
        injection z with _ z
        subst z
        exact hc
  | .int kk, cs, h => by
    cases cs with
    | nil => exact ⟨rfl, fun x rest z => by cases z⟩
    | cons c cs =>
      cases c <;> refine ⟨rfl, fun x rest z => ?_⟩ <;> simp only [toT] at z <;> try (simp at z; done)
      split at z
      · rename_i e; subst e; injection z with z; injection z with _ z; subst z; exact fun c hc => List.mem_cons_of_mem _ hc
      · cases z
  | .bool, cs, h => by
    cases cs with
    | nil => exact ⟨rfl, fun x rest z => by cases z⟩
    | cons c cs =>
      cases c <;> refine ⟨rfl, fun x rest z => ?_⟩ <;> simp only [toT] at z <;> try (simp at z; done)
      split at z
      · rename_i e; subst e; injection z with z; injection z with _ z; subst z; exact fun c hc => List.mem_cons_of_mem _ hc
      · cases z
  | .str, cs, h => by
    cases cs with
    | nil => exact ⟨rfl, fun x rest z => by cases z⟩
    | cons c cs =>
      cases c <;> refine ⟨rfl, fun x rest z => ?_⟩ <;> simp only [toT] at z <;> try (simp at z; done)
      split at z
      · rename_i e; subst e; injection z with z; injection z with _ z; subst z; exact fun c hc => List.mem_cons_of_mem _ hc
      · cases z
  | .row e t, cs, h => by
    cases cs with
    | nil => exact ⟨rfl, fun x rest z => by cases z⟩
    | cons c cs =>
      cases c with
      | own j =>
        have := h j e t List.mem_cons_self
        simp only [toT, ← this]
        refine ⟨trivial, fun x rest z => ?_⟩
        split at z
        · injection z with z; injection z with _ z; subst z; exact fun c hc => List.mem_cons_of_mem _ hc
        · cases z
      | nils =>
        refine ⟨rfl, fun x rest z => ?_⟩
        simp only [toT] at z
        injection z with z; injection z with _ z; subst z; exact fun c hc => List.mem_cons_of_mem _ hc
      | ro t' y =>
        refine ⟨rfl, fun x rest z => ?_⟩
        simp only [toT] at z
        split at z
        · rename_i e; subst e; injection z with z; injection z with _ z; subst z; exact fun c hc => List.mem_cons_of_mem _ hc
        · cases z
      | _ => refine ⟨rfl, fun x rest z => ?_⟩; simp [toT] at z
theorem toT_frz {l : List (Nat × AB)} (h : FzOk hp l) (t : Ty) (cs : List AC) : toT (chs l hp) t cs = toT hp t cs := (toT_congr fun j e t _ => ownRow_frz h j e t).1
def MayTell (U : Nat → Prop) (ν : Nat → Value) (hp : List AB) (cs : List AC) : Prop := ∀ j e t xs, AC.own j ∈ cs → hp[j]? = some (.row e t xs) → ∀ k, blk (ν j) = some k → ¬ U k
theorem ownRow_rel (I : Inv U0 ν tm hp w0 a w) {U : Nat → Prop} (hU : ∀ k, k < w.heap.size → U k → Un U0 ν (lv hp) k) {j : Nat} {e : TypeId} {t : Ty} {xs : List (T t)} {v : Value} (h : ownRow hp j e t = some xs) (hv : RelC U0 ν (lv hp) w (.own j) v) (hm : ∀ e t xs, hp[j]? = some (.row e t xs) → ∀ k, blk (ν j) = some k → ¬ U k) : Rd U w (.row e t) xs [v] := by
  obtain ⟨hj, hv⟩ := hv
  unfold ownRow at h
  split at h
  · rename_i e' t' ys hb
    split at h
    · rename_i q
      obtain ⟨rfl, rfl⟩ := q
      injection h with h
      subst h
      obtain ⟨h1, A, n, h2⟩ := (I.mem j _ hb rfl).row_rd (U := U) fun k hk hu => ⟨hU k hk hu, fun z => hm _ _ _ hb k z hu⟩
      have : v = ν j := by rw [hv, h2]; rfl
      rw [this]
      exact h1
    · cases h
  · rename_i e' t' ys hb
    split at h
    · rename_i q
      obtain ⟨rfl, rfl⟩ := q
      injection h with h
      subst h
      obtain ⟨u, h1, h2⟩ := I.mem j _ hb rfl
      have : v = u := by rw [hv, h1]; rfl
      rw [this]
      exact h2.move ⟨Nat.le_refl _, fun _ _ _ => rfl, fun k hk hu => hU k hk hu⟩
    · cases h
  · cases h
theorem toT_rel (I : Inv U0 ν tm hp w0 a w) {U : Nat → Prop} (hU : ∀ k, k < w.heap.size → U k → Un U0 ν (lv hp) k) : ∀ {t : Ty} {cs rest : List AC} {x : T t} {vs : List Value}, MayTell U ν hp cs → toT hp t cs = some (x, rest) → All2 (RelC U0 ν (lv hp) w) cs vs → ∃ v1 v2, vs = v1 ++ v2 ∧ Rd U w t x v1 ∧ All2 (RelC U0 ν (lv hp) w) rest v2 ∧ MayTell U ν hp rest
  | .cons p q, cs, rest, x, vs, hm, h, hr => by
    simp only [toT] at h
    split at h
    · rename_i x1 cs1 h1
      split at h
      · rename_i x2 cs2 h2
        injection h with h
        injection h with hx hc
        subst hx hc
        obtain ⟨v1, v2, rfl, q1, q2, q3⟩ := toT_rel I hU hm h1 hr
        obtain ⟨v3, v4, rfl, q4, q5, q6⟩ := toT_rel I hU q3 h2 q2
        exact ⟨v1 ++ v3, v4, (List.append_assoc ..).symm, ⟨v1, v3, rfl, q1, q4⟩, q5, q6⟩
      · cases h
    · cases h
  | .int kk, [], rest, x, vs, hm, h, hr => by simp [toT] at h
  | .bool, [], rest, x, vs, hm, h, hr => by simp [toT] at h
  | .str, [], rest, x, vs, hm, h, hr => by simp [toT] at h
  | .row e t, [], rest, x, vs, hm, h, hr => by simp [toT] at h
  | .int kk, c :: cs, rest, x, v :: vs, hm, h, hr => by
    cases c <;> simp only [toT] at h <;> try (simp at h; done)
    split at h
    · rename_i t' y e
      subst e
      injection h with h
      injection h with hx hc
      subst hx hc
      exact ⟨[v], vs, rfl, hr.1.2, hr.2, fun j e t xs hj => hm j e t xs (List.mem_cons_of_mem _ hj)⟩
    · cases h
  | .bool, c :: cs, rest, x, v :: vs, hm, h, hr => by
    cases c <;> simp only [toT] at h <;> try (simp at h; done)
    split at h
    · rename_i t' y e
      subst e
      injection h with h
      injection h with hx hc
      subst hx hc
      exact ⟨[v], vs, rfl, hr.1.2, hr.2, fun j e t xs hj => hm j e t xs (List.mem_cons_of_mem _ hj)⟩
    · cases h
  | .str, c :: cs, rest, x, v :: vs, hm, h, hr => by
    cases c <;> simp only [toT] at h <;> try (simp at h; done)
    split at h
    · rename_i t' y e
      subst e
      injection h with h
      injection h with hx hc
      subst hx hc
      exact ⟨[v], vs, rfl, hr.1.2, hr.2, fun j e t xs hj => hm j e t xs (List.mem_cons_of_mem _ hj)⟩
    · cases h
  | .row e t, c :: cs, rest, x, v :: vs, hm, h, hr => by
    have hm' : MayTell U ν hp cs := fun j e t xs hj => hm j e t xs (List.mem_cons_of_mem _ hj)
    cases c with
    | ro t' y =>
      simp only [toT] at h
      split at h
      · rename_i e
        subst e
        injection h with h
        injection h with hx hc
        subst hx hc
        exact ⟨[v], vs, rfl, hr.1.2.move ⟨Nat.le_refl _, fun _ _ _ => rfl, fun k hk hu => hU k hk hu⟩, hr.2, hm'⟩
      · cases h
    | nils =>
      simp only [toT] at h
      injection h with h
      injection h with hx hc
      subst hx hc
      have hv : v = .slice none 0 0 := hr.1
      subst hv
      exact ⟨[_], vs, rfl, ⟨none, 0, rfl, Nat.le_refl _, Nat.zero_le _, fun hn => absurd hn (Nat.lt_irrefl 0)⟩, hr.2, hm'⟩
    | own j =>
      simp only [toT] at h
      split at h
      · rename_i ys hy
        injection h with h
        injection h with hx hc
        subst hx hc
        exact ⟨[v], vs, rfl, ownRow_rel I hU hy hr.1 (fun e t xs => hm j e t xs List.mem_cons_self), hr.2, hm'⟩
      · cases h
    | _ => simp [toT] at h
  | _, _ :: _, _, _, [], _, _, hr => hr.elim
theorem MayTell.frz {l : List (Nat × AB)} {cs : List AC} (h : FzOk hp l) (hi : ∀ j e t xs, AC.own j ∈ cs → hp[j]? = some (.row e t xs) → inFz l j = true) (U : Nat → Prop) (ν : Nat → Value) : MayTell U ν (chs l hp) cs := by
  intro j e t xs hj hb
  rcases chs_get h j with q | ⟨e', t', xs', q1, q2, _⟩
  · rw [q] at hb
    obtain ⟨_, _, _, z⟩ := chs_has h (hi j e t xs hj hb)
    rw [q, hb] at z
    cases z
  · rw [q2] at hb; cases hb
theorem fzs_in : ∀ {cs : List AC} {j : Nat} {e : TypeId} {t : Ty} {xs : List (T t)}, AC.own j ∈ cs → hp[j]? = some (.row e t xs) → inFz (fzs hp cs) j = true
  | c :: cs, j, e, t, xs, hj, hb => by
    rcases List.mem_cons.1 hj with rfl | hj
    · simp [fzs, hb, inFz]
    · have ih := fzs_in hj hb
      cases c with
      | own i =>
        simp only [fzs]
        split
        · simp [inFz, ih]
        · exact ih
      | _ => exact ih
theorem toT_told (I : Inv U0 ν tm hp w0 a w) (hU : ∀ k, U0 k → k < w0.heap.size) {t : Ty} {cs rest : List AC} {x : T t} {l : List (Nat × AB)} (hl : FzOk hp l) (hi : ∀ j e t xs, AC.own j ∈ cs → hp[j]? = some (.row e t xs) → inFz l j = true) (h : toT hp t cs = some (x, rest)) {ν' : Nat → Value} (I' : Inv U0 ν' tm (chs l hp) w0 a w) {vs : List Value} (hr : All2 (RelC U0 ν' (lv (chs l hp)) w) cs vs) :
    ∃ v1 v2, vs = v1 ++ v2 ∧ Rd (Un U0 ν' (lv (chs l hp))) w t x v1 ∧ All2 (RelC U0 ν' (lv (chs l hp)) w) rest v2 := by
  obtain ⟨v1, v2, h1, h2, h3, _⟩ := toT_rel I' (U := Un U0 ν' (lv (chs l hp))) (fun _ _ h => h) (MayTell.frz hl hi _ _) ((toT_frz hl t cs).trans h) hr
  exact ⟨v1, v2, h1, h2, h3⟩
theorem reps_set {α : Type} {Rr : α → List Value → Prop} {sz : Nat} {ps : List α} {cs us : List Value} {q : Nat} {y : α} (h : Reps Rr sz ps cs) (hy : Rr y us) (hu : us.length = sz) (hq : q < ps.length) : Reps Rr sz (ps.set q y) (cs.take (q * sz) ++ us ++ cs.drop (q * sz + sz)) := by
  have hqs : q * sz + sz ≤ cs.length := by rw [h.1, ← Nat.succ_mul]; exact Nat.mul_le_mul_right _ hq
  refine ⟨by have := h.1; simp only [List.length_append, List.length_take, List.length_drop, hu, List.length_set]; omega, fun j p hj => ?_⟩
  rcases Nat.lt_trichotomy j q with hlt | heq | hgt
  · have hjs : j * sz + sz ≤ q * sz := by rw [← Nat.succ_mul]; exact Nat.mul_le_mul_right _ hlt
    rw [List.getElem?_set_ne (by omega)] at hj
    have := h.2 j p hj
    rw [List.append_assoc, List.drop_append_of_le_length (by simp; omega), List.take_append_of_le_length (by simp; omega), List.drop_take, List.take_take, Nat.min_eq_left (by omega)]
    exact this
  · subst heq
    rw [List.getElem?_set_self hq] at hj
    injection hj with hj
    subst hj
    rw [List.append_assoc, List.drop_append, List.drop_eq_nil_of_le (by simp; omega), List.nil_append, List.length_take, Nat.min_eq_left (by omega), Nat.sub_self, List.drop_zero, ← hu, List.take_left]
    exact hy
  · have hjs : q * sz + sz ≤ j * sz := by rw [← Nat.succ_mul]; exact Nat.mul_le_mul_right _ hgt
    rw [List.getElem?_set_ne (by omega)] at hj
    have := h.2 j p hj
    rw [List.drop_append, List.drop_eq_nil_of_le (by simp; omega), List.nil_append, List.drop_drop, List.length_append, List.length_take, hu, Nat.min_eq_left (by omega), show q * sz + sz + (j * sz - (q * sz + sz)) = j * sz by omega]
    exact this
theorem splice_take (L v : List Value) (A n : Nat) (h : A + v.length ≤ n) (hn : n ≤ L.length) : (L.take A ++ v ++ L.drop (A + v.length)).take n = (L.take n).take A ++ v ++ (L.take n).drop (A + v.length) := by
  have e1 : (L.take A).length = A := by rw [List.length_take]; omega
  have e2 : (L.take n).take A = L.take A := by rw [List.take_take, Nat.min_eq_left (by omega)]
  rw [e2, List.drop_take, List.take_append, List.length_append, e1, List.take_of_length_le (l := L.take A ++ v) (by rw [List.length_append, e1]; exact h)]
theorem ok_store (hΘ : Θ.ok P = true) (I : Inv U0 ν tm hp w0 a w) (hU : ∀ k, U0 k → k < w0.heap.size) {t : TypeId} {x y : Operand} (ho : o.op = .store t x y) (hd : o.dst = none) (h : (stepT Θ S k tm hp o.dst (.store t x y) K).run = some r) : StepOk P Θ S k o U0 ν tm hp w0 a w K r := by
  simp only [stepT] at h
  split at h
  · rename_i j off xs i hx hy hi
    split at h
    · rename_i e cs hb
      split at h
      · rename_i hle
        obtain ⟨f, d, hf, _, hs, _⟩ := kind_of hΘ hi
        obtain ⟨hj, g, hν, hv⟩ := val_one (hx ▸ I.opnd x)
        obtain ⟨g', vs, h1, h2, h3, h4, h5⟩ := I.cells hb
        rw [hν] at h1
        injection h1 with h1
        injection h1 with h1
        injection h1 with h1
        subst h1
        obtain ⟨us, e1, e2, e3, e4⟩ := (hy ▸ I.opnd y : RelV U0 ν (lv hp) w (.val xs) (a.eval y)).cells I
        have hlen := h4.len
        have hul := e3.len
        obtain ⟨w', q1, q2, q3, q4, q5, q6, q7⟩ := run_cells_at (P := P) g e off us 0 vs w h3 (by omega) e4
        have hrun : (execOp a.eval o).run P w = .ok .skip w' := by
          simp only [execOp, ho, hv]
          simp [Instr.storeAt, Instr.sureAddr, storeVar, e2, sizeOf, typeInfo, hf, hs, show us.length = i.size by omega, q1]
        refine ⟨_, _, h, ?_⟩
        intro hh next Q hn
        unfold Oper.wp
        rw [hrun]
        refine hn ν undef w' ?_
        rw [show happ o.dst hp ⟨none, [(j, .cells e (cs.take off ++ xs ++ cs.drop (off + i.size)))]⟩ = hp.set j (.cells e (cs.take off ++ xs ++ cs.drop (off + i.size))) from rfl]
        refine I.turn hb rfl rfl (by rw [hν]; rfl) q3 q4 ⟨q5.trans I.fr.os, q6.trans I.fr.tape, q7.trans I.fr.output, by have := I.fr.size; omega, fun q hq => (q4 q (by omega)).trans (I.fr.block q hq)⟩ (fun m => ?_) _ _
        refine ⟨g, vs.take off ++ us ++ vs.drop (off + us.length), hν, h2, by simpa using q2, ?_⟩
        have := ((h4.take off).app e3).app (h4.drop (off + i.size))
        rw [show off + us.length = off + i.size by omega]
        exact this.imp fun _ _ z => RelC.move m kp_refl z
      · cases h
    · cases h
  · rename_i j q sz ys i hx hy hi
    split at h
    · rename_i e t' xs hb
      split at h
      · rename_i hc
        obtain ⟨hz, hiz, hin⟩ := hc
        split at h
        · rename_i y' hy'
          obtain ⟨f, d, hf, _, hs, _⟩ := kind_of hΘ hi
          have hfz := fzs_ok (hp := hp) ys
          obtain ⟨ν', I'⟩ := I.freezes hU hfz
          have hb' : (chs (fzs hp ys) hp)[j]? = some (.row e t' xs) := by
            rcases chs_get hfz j with q | ⟨_, _, _, _, _, q⟩
            · exact q.trans hb
            · rw [hin] at q; cases q
          obtain ⟨us, e1, e2, e3, e4⟩ := (hy ▸ I'.opnd y : RelV U0 ν' (lv (chs (fzs hp ys) hp)) w (.val ys) (a.eval y)).cells I'
          obtain ⟨v1, v2, rfl, hrd, hnil⟩ := toT_told I hU hfz (fun j e t xs hj hb => fzs_in hj hb) hy' I' e3
          have : v2 = [] := by
            cases v2 with
            | nil => rfl
            | cons _ _ => exact hnil.elim
          subst this
          rw [List.append_nil] at e2 e4
          have hul : v1.length = t'.size := by rw [(kd t').K_len hrd.K, kd_sz]
          obtain ⟨g, cap, cur, inner, h1, h2, h3, h4, h5, h6, h7, hv⟩ := I'.elt hb' (val_one (hx ▸ I'.opnd x)) hz
          have hksz := kd_sz t'
          have hfit : q.toNat * t'.size + t'.size ≤ List.length xs * (kd t').sz := by rw [hksz, ← Nat.succ_mul]; exact Nat.mul_le_mul_right _ h7
          have hcl : List.length xs * (kd t').sz ≤ cur.toList.length := by
            have := congrArg List.length h4
            rw [List.length_take, h5.1] at this
            omega
          obtain ⟨w', q1, q2, q3, q4, q5, q6, q7⟩ := run_cells_at (P := P) g e (q.toNat * t'.size) v1 0 cur.toList w (by simpa using h3) (by omega) e4
          have hrun : (execOp a.eval o).run P w = .ok .skip w' := by
            simp only [execOp, ho, hv]
            simp [Instr.storeAt, Instr.sureAddr, storeVar, e2, sizeOf, typeInfo, hf, hs, show v1.length = i.size by omega, q1]
          refine ⟨_, _, h, ?_⟩
          intro hh next Q hn
          unfold Oper.wp
          rw [hrun]
          refine hn ν' undef w' ?_
          rw [show happ o.dst hp ⟨none, (j, .row e t' ((xs : List (T t')).set q.toNat y')) :: fzs hp ys⟩ = (chs (fzs hp ys) hp).set j (.row e t' ((xs : List (T t')).set q.toNat y')) from rfl]
          refine I'.turn hb' rfl rfl (by rw [h1]; rfl) q3 q4 ⟨q5.trans I.fr.os, q6.trans I.fr.tape, q7.trans I.fr.output, by have := I.fr.size; omega, fun z hz => (q4 z (by omega)).trans (I.fr.block z hz)⟩ (fun m => ?_) _ _
          refine ⟨inner.take (q.toNat * t'.size) ++ v1 ++ inner.drop (q.toNat * t'.size + t'.size), ?_, ?_⟩
          · refine ⟨by have := h5.1; simp only [List.length_append, List.length_take, List.length_drop, hul, List.length_set]; omega, .inr ⟨g, cap, _, by rw [h1]; simp, h2, q2, ?_⟩⟩
            rcases h5.2 with ⟨z, _⟩ | ⟨g', cap', cur', z, z2, z3, z4, z5, z6, z7⟩
            · rw [h1] at z; cases z
            · rw [h1] at z
              injection z with z1 z8 z9
              injection z1 with z1
              injection z1 with z1
              subst z1 z9
              rw [h3] at z3
              injection z3 with z3
              injection z3 with z3
              subst z3
              refine ⟨by simpa using z4, z5, ?_, ?_⟩
              · have : cur.toList.length = cur.size := by simp
                simp [hul]
                omega
              · simp only [Nat.add_zero, List.length_set]
                rw [← h4, splice_take _ _ _ _ (by omega) hcl, hul]
          · exact (reps_set (by rw [hksz] at h6; exact h6) hrd hul h7 |> fun z => by rw [hksz]; exact z.imp_ fun _ _ z => z.move m)
        · cases h
      · cases h
    · cases h
  · cases h
end
end Go.Proofs.YtldcgclbgbhffaaW.Abs

end
section
namespace Go.Proofs.YtldcgclbgbhffaaW.Abs
open Go.RowKit Go.Proofs.YtldcgclbgbhffaaW.PrintWords Go.Proofs.YtldcgclbgbhffaaW.PrintLast Go.Proofs.YtldcgclbgbhffaaW.PrintMore
set_option linter.unusedVariables false
set_option linter.unusedSectionVars false

def ArgR (U : Nat → Prop) (w : World) : (ps : List Ty) → TT ps → List Value → Prop
  | [], _, vs => vs = []
  | t :: ts, x, v :: vs => (∃ cs, v = mkV cs ∧ Rd U w t x.1 cs) ∧ ArgR U w ts x.2 vs
  | _ :: _, _, [] => False
def ResL (U : Nat → Prop) (w : World) : (rs : List Ty) → TT rs → List Value → Prop
  | [], _, us => us = []
  | t :: ts, x, u :: us => (∃ cs, u = mkV cs ∧ Rd U w t x.1 cs) ∧ ResL U w ts x.2 us
  | _ :: _, _, [] => False
def mkR : List Value → Value
  | [u] => u
  | us => .tuple us.toArray
def ResR (U : Nat → Prop) (w : World) (rs : List Ty) (x : TT rs) (v : Value) : Prop := ∃ us, v = mkR us ∧ ResL U w rs x us
def FnOk (P : Program) (g : FuncId) (s : FSpec) (k : Nat) : Prop := ∀ x r, s.f k x = some r → ∀ (U : Nat → Prop) (w : World) (vs : List Value), (∀ q, U q → q < w.heap.size) → ArgR U w s.ps x vs →
  Calls P g vs.toArray w (fun e w' => ∃ v, e = .returned v ∧ ResR U w' s.rs r v ∧ Below w.heap.size w w')
def bodied (P : Program) (g : FuncId) : Bool := match P.funcs[g]? with
  | some fn => !(fn.name == "runtime.NumGoroutine") && fn.body.isSome
  | none => false
def SpecsOk (P : Program) (S : FuncId → Option FSpec) (k0 : Nat) : Prop := ∀ g s, S g = some s → bodied P g = true ∧ ∀ k, k ≤ k0 → FnOk P g s k
section
variable {P : Program} {Θ : Tab} {S : FuncId → Option FSpec} {k : Nat} {o : Oper} {U0 : Nat → Prop} {ν : Nat → Value} {L : Nat → Prop} {tm : List AV} {hp : List AB} {w0 w : World} {a : Act} {R : Type} {K : AV → HC → Tree R} {r : R}
theorem ress_rel {w' : World} : ∀ {rs : List Ty} {x : TT rs} {us : List Value}, ResL (Un U0 ν L) w' rs x us → All2 (fun cs u => ∃ vs, u = mkV vs ∧ All2 (RelC U0 ν L w') cs vs) (ress rs x) us
  | [], x, us, h => by rw [show us = [] from h]; trivial
  | t :: ts, x, u :: us, ⟨⟨cs, h1, h2⟩, h3⟩ => ⟨⟨cs, h1, expl_rel t x.1 h2⟩, ress_rel h3⟩
  | _ :: _, _, [], h => h.elim
theorem ress_len : ∀ {rs : List Ty} {x : TT rs} {U : Nat → Prop} {us : List Value}, ResL U w rs x us → us.length = rs.length ∧ (ress rs x).length = rs.length
  | [], x, U, us, h => by rw [show us = [] from h]; exact ⟨rfl, rfl⟩
  | t :: ts, x, U, u :: us, ⟨_, h3⟩ => ⟨congrArg (· + 1) (ress_len h3).1, congrArg (· + 1) (ress_len h3).2⟩
  | _ :: _, _, _, [], h => h.elim
theorem resV_rel {w' : World} {rs : List Ty} {x : TT rs} {v : Value} (h : ResR (Un U0 ν L) w' rs x v) : RelV U0 ν L w' (resV rs x) v := by
  obtain ⟨us, rfl, h⟩ := h
  have hr := ress_rel h
  have hl := ress_len h
  unfold resV
  split
  · rename_i cs hc
    rw [hc] at hr
    match us, hr with
    | [u], hr => exact hr.1
    | [], hr => exact hr.elim
    | _ :: _ :: _, hr => exact hr.2.elim
  · rename_i hne
    have : us.length ≠ 1 := fun q => by
      have h2 : (ress rs x).length = 1 := by rw [hl.2, ← hl.1, q]
      obtain ⟨cs, hc⟩ := List.length_eq_one_iff.1 h2
      exact hne cs hc
    refine ⟨us, ?_, hr⟩
    unfold mkR
    split
    · exact absurd rfl this
    · rfl
def ownIn (tm : List AV) (os : List Operand) (j : Nat) : Prop := ∃ o ∈ os, AC.own j ∈ cellsOf (opnd tm o)
theorem args_rel (I : Inv U0 ν tm hp w0 a w) {U : Nat → Prop} (hU : ∀ k, k < w.heap.size → U k → Un U0 ν (lv hp) k) : ∀ {ps : List Ty} {os : List Operand} {x : TT ps}, (∀ o ∈ os, MayTell U ν hp (cellsOf (opnd tm o))) → args hp tm ps os = some x → ArgR U w ps x (os.map a.eval)
  | [], [], x, _, h => rfl
  | t :: ts, o :: os, x, hm, h => by
    simp only [args] at h
    split at h
    · rename_i cs hc
      split at h
      · rename_i y hy
        split at h
        · rename_i ys hys
          injection h with h
          subst h
          obtain ⟨vs, h1, h2⟩ := hc ▸ I.opnd o
          have hmo := hm o List.mem_cons_self
          rw [hc] at hmo
          obtain ⟨v1, v2, rfl, q1, q2, _⟩ := toT_rel I hU hmo hy h2
          have : v2 = [] := by
            cases v2 with
            | nil => rfl
            | cons _ _ => exact q2.elim
          subst this
          rw [List.append_nil] at h1
          exact ⟨⟨v1, h1, q1⟩, args_rel I hU (fun o ho => hm o (List.mem_cons_of_mem _ ho)) hys⟩
        · cases h
      · cases h
    · cases h
  | [], _ :: _, x, _, h => by simp [args] at h
  | _ :: _, [], x, _, h => by simp [args] at h
theorem args_frz {l : List (Nat × AB)} (hl : FzOk hp l) : ∀ (ps : List Ty) (os : List Operand), args (chs l hp) tm ps os = args hp tm ps os
  | [], [] => rfl
  | t :: ts, o :: os => by simp only [args, toT_frz hl, args_frz hl ts os]
  | [], _ :: _ => rfl
  | _ :: _, [] => rfl
theorem argFz_in : ∀ {os : List Operand} {o : Operand} {j : Nat} {e : TypeId} {t : Ty} {xs : List (T t)}, o ∈ os → AC.own j ∈ cellsOf (opnd tm o) → hp[j]? = some (.row e t xs) → inFz (argFz hp tm os) j = true
  | o' :: os, o, j, e, t, xs, ho, hj, hb => by
    have app : ∀ (l l' : List (Nat × AB)), inFz (l ++ l') j = (inFz l j || inFz l' j) := by
      intro l l'
      induction l with
      | nil => simp [inFz]
      | cons p l ih => simp [inFz, ih, Bool.or_assoc]
    simp only [argFz, app, Bool.or_eq_true]
    rcases List.mem_cons.1 ho with rfl | ho
    · exact .inl (fzs_in hj hb)
    · exact .inr (argFz_in ho hj hb)
theorem noRow_rd {U U' : Nat → Prop} : ∀ {t : Ty} {x : T t} {cs : List Value}, noRow t = true → Rd U w t x cs → Rd U' w t x cs
  | .int _, _, _, _, h => h
  | .bool, _, _, _, h => h
  | .str, _, _, _, h => h
  | .row _ _, _, _, h, _ => by simp [noRow] at h
  | .cons p q, x, cs, h, ⟨c0, c1, h1, h2, h3⟩ => by
    simp only [noRow, Bool.and_eq_true] at h
    exact ⟨c0, c1, h1, noRow_rd h.1 h2, noRow_rd h.2 h3⟩
theorem noRow_res {U U' : Nat → Prop} : ∀ {rs : List Ty} {x : TT rs} {us : List Value}, rs.all noRow = true → ResL U w rs x us → ResL U' w rs x us
  | [], _, _, _, h => h
  | t :: ts, x, u :: us, hn, ⟨⟨cs, h1, h2⟩, h3⟩ => by
    simp only [List.all_cons, Bool.and_eq_true] at hn
    exact ⟨⟨cs, h1, noRow_rd hn.1 h2⟩, noRow_res hn.2 h3⟩
  | _ :: _, _, [], _, h => h.elim
theorem ok_func (hS : SpecsOk P S k) (I : Inv U0 ν tm hp w0 a w) (hU : ∀ q, U0 q → q < w0.heap.size) {c : Call} {g : FuncId} (hg : c.callee = .value (.func g)) (ho : o.op = .call c) {s : FSpec} (hs : S g = some s) {x : TT s.ps} (hx : args hp tm s.ps c.args.toList = some x) (h : (Tree.cll (s.f k x) fun r => K (resV s.rs r) ⟨none, if s.rs.all noRow = true then [] else argFz hp tm c.args.toList⟩).run = some r) : StepOk P Θ S k o U0 ν tm hp w0 a w K r := by
  obtain ⟨y, hf, h⟩ := Tree.cll_run h
  refine ⟨_, _, h, ?_⟩
  intro hh next Q hn
  obtain ⟨hb, hk⟩ := hS g s hs
  have hmap : (c.args.toList.map a.eval).toArray = c.args.map a.eval := by apply Array.ext'; simp
  have hrun : (execOp a.eval o).run P w = .ok (.enter g (c.args.toList.map a.eval).toArray) w := by
    rw [hmap]
    unfold bodied at hb
    split at hb
    · rename_i fn hfn
      simp only [Bool.and_eq_true, Bool.not_eq_true'] at hb
      have he := enters_ hfn hb.1 hb.2 (c.args.map a.eval) w
      unfold execOp
      simp only [ho]
      cases c with
      | mk callee as ts =>
        simp only at hg
        subst hg
        simp [resolve, Deferred.ofValue, invoke, Act.eval, he]
    · cases hb
  unfold Oper.wp
  rw [hrun]
  have hUn : ∀ (hp' : List AB) (ν' : Nat → Value), Inv U0 ν' tm hp' w0 a w → ∀ q, Un U0 ν' (lv hp') q → q < w.heap.size := fun hp' ν' I' q hq => by
    rcases hq with hq | ⟨j, hj, hb⟩
    · exact Nat.lt_of_lt_of_le (hU q hq) I'.fr.size
    · exact (I'.lt hj hb).1
  -- what is called with rows that stay so, and hands back cells
  have fin : ∀ (hp' : List AB) (ν' : Nat → Value) (U : Nat → Prop), Inv U0 ν' tm hp' w0 a w → (∀ q, U q → q < w.heap.size) → ArgR U w s.ps x (c.args.toList.map a.eval) → (∀ w' v, ResR U w' s.rs y v → ResR (Un U0 ν' (lv hp')) w' s.rs y v) →
      (∀ ν' v w', Inv U0 ν' (putT tm o.dst (resV s.rs y)) hp' w0 (a.put o.dst v) w' → next (a.put o.dst v) w') → o.upon P a next Q (.ok (.enter g (c.args.toList.map a.eval).toArray) w) := by
    intro hp' ν' U I' hUw harg hres hn
    rw [Oper.upon_enter]
    refine (hk k (Nat.le_refl _) x y hf U w _ hUw harg).mono fun e w' hh => ?_
    obtain ⟨v, rfl, hr, hbel⟩ := hh
    show next (a.put o.dst v) w'
    exact hn ν' v w' (I'.go o.dst _ v hbel.size hbel.block (fun j hj q hq => (I'.lt hj hq).1) (resV_rel (hres w' v hr)) (I'.fr.trans (hbel.mono I'.fr.size)))
  by_cases hnr : s.rs.all noRow = true
  · rw [if_pos hnr] at hn
    refine fin hp ν (fun q => Un U0 ν (lv hp) q ∧ ¬ ∃ j, ownIn tm c.args.toList j ∧ lv hp j ∧ blk (ν j) = some q) I (fun q hq => hUn hp ν I q hq.1) (args_rel I (fun q _ hq => hq.1) (fun o' ho' j e t xs hj hb q hq hu => hu.2 ⟨j, ⟨o', ho', hj⟩, ⟨_, hb, rfl⟩, hq⟩) hx) (fun w' v ⟨us, h1, h2⟩ => ⟨us, h1, noRow_res hnr h2⟩) hn
  · rw [if_neg hnr] at hn
    have hfz := argFz_ok (hp := hp) (tm := tm) c.args.toList
    obtain ⟨ν', I'⟩ := I.freezes hU hfz
    exact fin (chs (argFz hp tm c.args.toList) hp) ν' (Un U0 ν' (lv (chs (argFz hp tm c.args.toList) hp))) I' (fun q hq => hUn _ ν' I' q hq) (args_rel I' (fun q _ hq => hq) (fun o' ho' => MayTell.frz hfz (fun j e t xs hj hb => argFz_in ho' hj hb) _ _) ((args_frz hfz _ _).trans hx)) (fun _ _ z => z) hn
theorem one_arg {c : Call} {b : Builtin} {x : Operand} {t : TypeId} (hc : c.callee = .builtin b) (hxs : c.args.toList = [x]) (hts : c.argTypes.toList = [t]) : c = { callee := .builtin b, args := #[x], argTypes := #[t] } := by
  cases c with
  | mk callee as ts =>
    simp only at hc hxs hts
    subst hc
    congr 1
    · exact Array.toList_inj.1 hxs
    · exact Array.toList_inj.1 hts
theorem two_args {c : Call} {b : Builtin} {x y : Operand} (hc : c.callee = .builtin b) (hxs : c.args.toList = [x, y]) : c = { callee := .builtin b, args := #[x, y], argTypes := c.argTypes } := by
  cases c with
  | mk callee as ts =>
    simp only at hc hxs
    subst hc
    congr 1
    exact Array.toList_inj.1 hxs
theorem len_run {x : Operand} {t : TypeId} {d : TypeDesc} {A : Option Addr} {n c : Nat} {e : TypeId} (ho : o.op = .call { callee := .builtin .len, args := #[x], argTypes := #[t] }) (hd : P.underlying t = some (.slice e)) (hx : a.eval x = .slice A n c) : (execOp a.eval o).run P w = .ok (.value (.int .i64 n)) w := by
  simp only [execOp, ho, resolve]
  simp [invoke, builtin, hx, Builtin.len_, run_underlying hd, goInt]
theorem ok_len (hΘ : Θ.ok P = true) (I : Inv U0 ν tm hp w0 a w) {c : Call} (hc : c.callee = .builtin .len) (ho : o.op = .call c) (h : (stepT Θ S k tm hp o.dst (.call c) K).run = some r) : StepOk P Θ S k o U0 ν tm hp w0 a w K r := by
  simp only [stepT, hc] at h
  split at h
  · rename_i x t hxs hts
    have hop : o.op = .call { callee := .builtin .len, args := #[x], argTypes := #[t] } := by rw [ho, one_arg hc hxs hts]
    have ks : ∀ {i : TI} {e' : TypeId}, ti Θ t = some i → i.kind = .slice e' → P.underlying t = some (.slice e') := fun hi hk => by
      obtain ⟨_, d, _, hd, _, _, hB, _⟩ := kind_of hΘ hi
      rw [hk] at hB
      rw [kind_slice hB] at hd
      exact hd
    split at h
    · rename_i e t' xs i hx hi
      split at h
      · rename_i e' hk
        have hv : RelC U0 ν (lv hp) w (.ro (.row e t') xs) (a.eval x) := val_one (hx ▸ I.opnd x)
        obtain ⟨A, cc, hsl, _⟩ := hv.2
        exact ⟨_, _, h, goes_value I (len_run (d := .bool) hop (ks hi hk) (List.cons.inj hsl).1) (rel_iv .i64 _)⟩
      · cases h
    · rename_i i hx hi
      split at h
      · rename_i e' hk
        have hv : RelC U0 ν (lv hp) w .nils (a.eval x) := val_one (hx ▸ I.opnd x)
        have hv : a.eval x = .slice none 0 0 := hv
        exact ⟨_, _, h, goes_value I (len_run (d := .bool) hop (ks hi hk) hv) (rel_iv .i64 0)⟩
      · cases h
    · rename_i j i hx hi
      split at h
      · rename_i e' hk
        have hv : RelC U0 ν (lv hp) w (.own j) (a.eval x) := val_one (hx ▸ I.opnd x)
        split at h
        · rename_i e t' xs hb
          obtain ⟨_, A, n, h2⟩ := (I.mem j _ hb rfl).row_rd (U := fun _ => False) (fun _ _ z => z.elim)
          exact ⟨_, _, h, goes_value I (len_run (d := .bool) hop (ks hi hk) (show a.eval x = .slice A (List.length xs) n by rw [hv.2, h2]; rfl)) (rel_iv .i64 _)⟩
        · rename_i e t' xs hb
          obtain ⟨v, h1, A, n, h2, _⟩ := I.mem j _ hb rfl
          exact ⟨_, _, h, goes_value I (len_run (d := .bool) hop (ks hi hk) (show a.eval x = .slice A (List.length xs) n by rw [hv.2, h1]; exact (List.cons.inj h2).1)) (rel_iv .i64 _)⟩
        · cases h
      · cases h
    · rename_i s i hx hi
      split at h
      · rename_i hk
        have hv := ro_str (hx ▸ I.opnd x)
        obtain ⟨_, d, _, hd, _, _, hB, _⟩ := kind_of hΘ hi
        rw [hk] at hB
        rw [kind_str hB] at hd
        refine ⟨_, _, h, goes_value I ?_ (rel_iv .i64 _)⟩
        simp only [execOp, hop, resolve]
        simp [invoke, builtin, hv, Builtin.len_, run_underlying hd, goInt]
      · cases h
    · cases h
  · cases h
theorem ok_max (I : Inv U0 ν tm hp w0 a w) {c : Call} (hc : c.callee = .builtin .max) (ho : o.op = .call c) (h : (stepT Θ S k tm hp o.dst (.call c) K).run = some r) : StepOk P Θ S k o U0 ν tm hp w0 a w K r := by
  simp only [stepT, hc] at h
  split at h
  · rename_i x y hxs
    rw [two_args hc hxs] at ho
    split at h
    · rename_i kk m kk' n hx hy
      have h1 := ro_int (hx ▸ I.opnd x)
      have h2 := ro_int (hy ▸ I.opnd y)
      refine ⟨_, _, h, goes_value I ?_ (rel_iv kk _)⟩
      simp only [execOp, ho, resolve]
      simp [invoke, builtin, Builtin.max_, h1, h2, max2_int, mx]
    · cases h
  · cases h
theorem ok_min (I : Inv U0 ν tm hp w0 a w) {c : Call} (hc : c.callee = .builtin .min) (ho : o.op = .call c) (h : (stepT Θ S k tm hp o.dst (.call c) K).run = some r) : StepOk P Θ S k o U0 ν tm hp w0 a w K r := by
  simp only [stepT, hc] at h
  split at h
  · rename_i x y hxs
    rw [two_args hc hxs] at ho
    split at h
    · rename_i kk m kk' n hx hy
      have h1 := ro_int (hx ▸ I.opnd x)
      have h2 := ro_int (hy ▸ I.opnd y)
      refine ⟨_, _, h, goes_value I ?_ (rel_iv kk _)⟩
      simp only [execOp, ho, resolve]
      simp [invoke, builtin, Builtin.min_, h1, h2, min2_int, mn]
    · cases h
  · cases h
end
end Go.Proofs.YtldcgclbgbhffaaW.Abs

end
section
namespace Go.Proofs.YtldcgclbgbhffaaW.Abs
open Go.RowKit Go.Proofs.YtldcgclbgbhffaaW.PrintWords Go.Proofs.YtldcgclbgbhffaaW.PrintLast Go.Proofs.YtldcgclbgbhffaaW.PrintMore
set_option linter.unusedVariables false
set_option linter.unusedSectionVars false

theorem splice (off : Nat) : ∀ (xs : List Value) (j : Nat) (cs : List Value), off + j + xs.length ≤ cs.length →
    ((xs.zipIdx j).foldl (fun (q : Array Value) (p : Value × Nat) => q.setIfInBounds (off + p.2) p.1) cs.toArray) = (cs.take (off + j) ++ xs ++ cs.drop (off + j + xs.length)).toArray
  | [], j, cs, _ => by simp
  | x :: xs, j, cs, h => by
    simp only [List.zipIdx_cons, List.foldl_cons, List.setIfInBounds_toArray]
    simp only [List.length_cons] at h
    rw [splice off xs (j + 1) (cs.set (off + j) x) (by simp; omega)]
    congr 1
    apply List.ext_getElem?
    intro m
    simp only [List.getElem?_append, List.length_append, List.length_take, List.length_set, List.length_cons, List.getElem?_take, List.getElem?_drop, List.getElem?_set]
    have hl : off + j < cs.length := by omega
    rcases Nat.lt_trichotomy m (off + j) with hm | hm | hm
    · simp [show m < min (off + (j + 1)) cs.length + xs.length by omega, show m < min (off + (j + 1)) cs.length by omega, show m < off + (j + 1) by omega, show m < min (off + j) cs.length + (xs.length + 1) by omega, show m < min (off + j) cs.length by omega, show m < off + j by omega, show off + j ≠ m by omega]
    · subst hm
      simp [show off + j < min (off + (j + 1)) cs.length + xs.length by omega, show off + j < min (off + (j + 1)) cs.length by omega, show off + j < off + (j + 1) by omega, show off + j < min (off + j) cs.length + (xs.length + 1) by omega, show ¬ off + j < min (off + j) cs.length by omega, hl, show off + j - min (off + j) cs.length = 0 by omega]
    · by_cases hm2 : m < off + (j + 1) + xs.length
      · simp [show m < min (off + (j + 1)) cs.length + xs.length by omega, show ¬ m < min (off + (j + 1)) cs.length by omega, show m < min (off + j) cs.length + (xs.length + 1) by omega, show ¬ m < min (off + j) cs.length by omega, show m - min (off + j) cs.length = (m - min (off + (j + 1)) cs.length) + 1 by omega]
      · simp [show ¬ m < min (off + (j + 1)) cs.length + xs.length by omega, show ¬ m < min (off + j) cs.length + (xs.length + 1) by omega, show off + (j + 1) + xs.length + (m - (min (off + (j + 1)) cs.length + xs.length)) = off + j + (xs.length + 1) + (m - (min (off + j) cs.length + (xs.length + 1))) by omega]
        intro hc
        exact absurd hc (by omega)
section
variable {P : Program} {Θ : Tab} {S : FuncId → Option FSpec} {k : Nat} {o : Oper} {U0 : Nat → Prop} {ν : Nat → Value} {tm : List AV} {hp : List AB} {w0 w : World} {a : Act} {R : Type} {K : AV → HC → Tree R} {r : R}
theorem fill_rel (I : Inv U0 ν tm hp w0 a w) {place : Nat → Option (Nat × Nat)} : ∀ {ps : List (Nat × Operand)} {cs out : List AC} {vs : List Value}, fillC place cs (ps.map fun p => (p.1, opnd tm p.2)) = some out → All2 (RelC U0 ν (lv hp) w) cs vs →
    ∃ us, Instr.fill place vs.toArray (ps.map fun p => (p.1, a.eval p.2)) = some us.toArray ∧ All2 (RelC U0 ν (lv hp) w) out us
  | [], cs, out, vs, h, hr => by
    simp only [List.map_nil, fillC] at h
    injection h with h
    subst h
    exact ⟨vs, rfl, hr⟩
  | (i, x) :: ps, cs, out, vs, h, hr => by
    simp only [List.map_cons] at h
    cases hx : opnd tm x with
    | val xs =>
      rw [hx] at h
      simp only [fillC] at h
      split at h
      · rename_i off sz hpl
        split at h
        · rename_i hc
          obtain ⟨us, e1, e2, e3, e4⟩ := (hx ▸ I.opnd x : RelV U0 ν (lv hp) w (.val xs) (a.eval x)).cells I
          have hl := hr.len
          have hu := e3.len
          have hr2 : All2 (RelC U0 ν (lv hp) w) (cs.take off ++ xs ++ cs.drop (off + sz)) (vs.take off ++ us ++ vs.drop (off + sz)) := ((hr.take off).app e3).app (hr.drop (off + sz))
          obtain ⟨zs, q1, q2⟩ := fill_rel I h hr2
          refine ⟨zs, ?_, q2⟩
          simp only [List.map_cons, Instr.fill, hpl]
          rw [e2]
          rw [if_neg (by simp; omega)]
          have := splice off us 0 vs (by omega)
          simp only [Nat.add_zero] at this
          rw [show off + us.length = off + sz by omega] at this
          rw [← q1, ← this]
          congr 1
          rw [← Array.foldl_toList]
          simp
        · cases h
      · cases h
    | un => rw [hx] at h; simp [fillC] at h
    | tup _ => rw [hx] at h; simp [fillC] at h
    | junk => rw [hx] at h; simp [fillC] at h
theorem ok_build (hΘ : Θ.ok P = true) (I : Inv U0 ν tm hp w0 a w) {t : TypeId} {ps : Array (Nat × Operand)} (ho : o.op = .build t ps) (h : (stepT Θ S k tm hp o.dst (.build t ps) K).run = some r) : StepOk P Θ S k o U0 ν tm hp w0 a w K r := by
  simp only [stepT] at h
  split at h
  · rename_i i hi
    split at h
    · rename_i fs hk
      split at h
      rotate_left
      · cases h
      rename_i hpl
      split at h
      · rename_i out hf
        split at h
        · cases h
        · rename_i hn1
          obtain ⟨f, d, hinf, hd, _, _, hB, _, _, z, hz, hzc⟩ := kind_of hΘ hi
          rw [hk] at hB
          obtain ⟨fields, rfl, hg⟩ := kind_struct hB
          have hr : All2 (RelC U0 ν (lv hp) w) i.zero z := zcs_rel hzc
          obtain ⟨us, q1, q2⟩ := fill_rel I hf hr
          have h4 : ∀ u ∈ z, u.oneCell' = true := fun u hu => by
            obtain ⟨c, _, hr⟩ := hr.mem u hu
            exact hr.one I.ones
          refine ⟨_, _, h, goes_value I (v := .agg us.toArray) ?_ ⟨us, (mkV_ne (by rw [← q2.len]; exact hn1)).symm, q2⟩⟩
          have hb : P.built t (ps.map fun p => (p.1, a.eval p.2)).toList = some us.toArray := by
            unfold Program.built
            simp only [hinf, hd, hz]
            have hmap : fields.toList.mapM (fun f => (P.info? f.type).map fun i => (f.offset, i.size)) = some fs := by
              rw [← hg] at hpl ⊢
              generalize fields.toList = l at *
              clear hg hf hd
              induction l with
              | nil => rfl
              | cons f l ih =>
                simp only [List.map_cons, List.all_cons, Bool.and_eq_true, bne_iff_ne] at hpl
                cases hq : P.info? f.type with
                | none => simp [hq] at hpl
                | some j => simp [hq, ih hpl.2, List.mapM_cons]
            simp only [hmap, mkV_cells h4]
            rw [← q1]
            congr 1
            · funext q; simp
            · simp
          simp only [execOp, ho]
          have := run_build (P := P) w t (ps.map fun p => (p.1, a.eval p.2)) us.toArray hb
          simp [this]
      · cases h
    · cases h
  · cases h
theorem rows_frz {l : List (Nat × AB)} (hl : FzOk hp l) {t : Ty} : ∀ (n : Nat) (cs : List AC), rows (chs l hp) t n cs = rows hp t n cs
  | 0, [] => rfl
  | 0, _ :: _ => rfl
  | n + 1, cs => by simp only [rows, toT_frz hl, rows_frz hl n]
theorem rows_rel (I : Inv U0 ν tm hp w0 a w) {t : Ty} : ∀ {n : Nat} {cs : List AC} {xs : List (T t)} {vs : List Value}, MayTell (Un U0 ν (lv hp)) ν hp cs → rows hp t n cs = some xs → All2 (RelC U0 ν (lv hp) w) cs vs → xs.length = n ∧ vs.length = n * t.size ∧ ∀ (j : Nat) (p : T t), xs[j]? = some p → Rd (Un U0 ν (lv hp)) w t p ((vs.drop (j * t.size)).take t.size)
  | 0, [], xs, vs, _, h, hr => by
    simp only [rows] at h
    injection h with h
    subst h
    have : vs = [] := by
      cases vs with
      | nil => rfl
      | cons _ _ => exact hr.elim
    subst this
    exact ⟨rfl, by simp, fun j p hj => by simp at hj⟩
  | 0, _ :: _, xs, vs, _, h, hr => by simp [rows] at h
  | n + 1, cs, xs, vs, hm, h, hr => by
    simp only [rows] at h
    split at h
    · rename_i x cs' hx
      split at h
      · rename_i ys hy
        injection h with h
        subst h
        obtain ⟨v1, v2, rfl, q1, q2, q3⟩ := toT_rel I (fun _ _ h => h) hm hx hr
        obtain ⟨z1, z2, z3⟩ := rows_rel I q3 hy q2
        have hl : v1.length = t.size := by rw [(kd t).K_len q1.K, kd_sz]
        refine ⟨by simp [z1], by rw [List.length_append, hl, z2, Nat.add_mul]; omega, fun j p hj => ?_⟩
        cases j with
        | zero =>
          simp only [List.getElem?_cons_zero] at hj
          injection hj with hj
          subst hj
          rw [Nat.zero_mul, List.drop_zero, ← hl, List.take_left]
          exact q1
        | succ j =>
          simp only [List.getElem?_cons_succ] at hj
          have := z3 j p hj
          rw [Nat.add_mul, Nat.one_mul, Nat.add_comm, ← hl, ← List.drop_drop, List.drop_left, hl]
          exact this
      · cases h
    · cases h
theorem zeros_rel {zs : List AC} {z : List Value} (h : All2 (RelC U0 ν (lv hp) w) zs z) : ∀ n : Nat, All2 (RelC U0 ν (lv hp) w) ((List.range n).flatMap fun _ => zs) ((List.range n).flatMap fun _ => z)
  | 0 => trivial
  | n + 1 => by
    rw [List.range_succ, List.flatMap_append, List.flatMap_append]
    exact (zeros_rel h n).app (by simpa using h)
theorem zeros_cells {z : List Value} {sz : Nat} (hl : z.length = sz) (hs : 0 < sz) : ∀ n : Nat, (Array.range (n * sz)).map (fun i => z.toArray[i % z.toArray.size]!) = ((List.range n).flatMap fun _ => z).toArray := by
  intro n
  apply Array.ext'
  simp only [Array.toList_map, Array.toList_range]
  induction n with
  | zero => simp
  | succ n ih =>
    rw [List.range_succ, List.flatMap_append, Nat.add_mul, Nat.one_mul, List.range_add, List.map_append, ih]
    congr 1
    apply List.ext_getElem
    · simp [hl]
    · intro i h1 h2
      simp at h1 h2 ⊢
      have : (n * sz + i) % sz = i := by rw [Nat.mul_comm, Nat.mul_add_mod]; exact Nat.mod_eq_of_lt h1
      rw [hl, this]
      simp [show i < z.length by omega]
theorem size_pos : ∀ t : Ty, 0 < t.size
  | .cons a b => Nat.lt_of_lt_of_le (size_pos a) (Nat.le_add_right _ _)
  | .int _ => Nat.one_pos
  | .bool => Nat.one_pos
  | .str => Nat.one_pos
  | .row _ _ => Nat.one_pos
theorem rd_new {U : Nat → Prop} {e : TypeId} {ty : Ty} {xs : List (T ty)} {us : List Value} (hU : ∀ q, U q → q < w.heap.size) (h : ∀ (j : Nat) (p : T ty), xs[j]? = some p → Rd U w ty p ((us.drop (j * ty.size)).take ty.size)) (hl : List.length xs ≤ 9223372036854775807) :
    Rd U (w.alloc (.cells us.toArray e (0, 0))) (.row e ty) xs [.slice (some ⟨w.heap.size, 0, none⟩) (List.length xs) (List.length xs)] := by
  have m : Move U w (w.alloc (.cells us.toArray e (0, 0))) U := ⟨by simp, fun q hq _ => Below.heap_alloc _ _ _ hq, fun _ _ z => z⟩
  refine ⟨_, _, rfl, Nat.le_refl _, hl, fun _ => ⟨_, rfl, fun j p hj => ⟨_, (h j p hj).move m, fun i u hu W hs2 hb2 => ?_⟩⟩⟩
  have hblk : W.heap[w.heap.size]? = some (.cells us.toArray e (0, 0)) := by
    rw [hb2 w.heap.size (by simp) (fun q => absurd (hU _ q) (by omega))]
    exact heap_alloc_new w _
  show W.cell? _ = _
  rw [add_at, blk_cell hblk]
  rw [List.getElem?_take] at hu
  split at hu
  · rw [List.getElem?_drop] at hu
    simpa using hu
  · cases hu
theorem ok_buildSlice (hΘ : Θ.ok P = true) (I : Inv U0 ν tm hp w0 a w) (hU : ∀ q, U0 q → q < w0.heap.size) {t : TypeId} {n : Nat} {ps : Array (Nat × Operand)} (ho : o.op = .buildSlice t n ps) (h : (stepT Θ S k tm hp o.dst (.buildSlice t n ps) K).run = some r) : StepOk P Θ S k o U0 ν tm hp w0 a w K r := by
  simp only [stepT] at h
  split at h
  · rename_i i hi
    split at h
    · rename_i e hk
      split at h
      · rename_i zi hzi
        split at h
        · rename_i ty hty
          split at h
          · rename_i hsz
            split at h
            · rename_i out q hf hq
              split at h
              · rename_i xs hxs
                obtain ⟨_, d, _, hd, _, _, hB, _⟩ := kind_of hΘ hi
                rw [hk] at hB
                rw [kind_slice hB] at hd
                obtain ⟨f, _, hinf, _, hs, _, _, _, hzl, z, hz, hzc⟩ := kind_of hΘ hzi
                have hfz := fzs_ok (hp := hp) out
                have run : ∀ {hp' : List AB} {ν' : Nat → Value}, Inv U0 ν' tm hp' w0 a w → ∃ us, All2 (RelC U0 ν' (lv hp') w) out us ∧ (execOp a.eval o).run P w = .ok (.value (.slice (some ⟨w.heap.size, 0, none⟩) n n)) (w.alloc (.cells us.toArray e (0, 0))) := by
                  intro hp' ν' I'
                  have hzr : All2 (RelC U0 ν' (lv hp') w) zi.zero z := zcs_rel hzc
                  have h4 : ∀ u ∈ z, u.oneCell' = true := fun u hu => by
                    obtain ⟨c, _, hr⟩ := hzr.mem u hu
                    exact hr.one I'.ones
                  obtain ⟨us, q1, q2⟩ := fill_rel I' hf (zeros_rel hzr n)
                  have hzlen : z.length = zi.size := by rw [← hzr.len, hzl]
                  have hpos : 0 < ty.size := size_pos ty
                  refine ⟨us, q2, ?_⟩
                  have hs1 : (sizeOf e).run P w = .ok zi.size w := by simp [sizeOf, typeInfo, hinf, hs]
                  have hz1 : (zeroValue e).run P w = .ok (mkV z) w := by simp [zeroValue, typeInfo, hinf, hz]
                  have hle : ¬ n * zi.size > 2 ^ 24 := by have := hsz.2.1; omega
                  have hfl : Instr.fill (fun i => some (i * zi.size, zi.size)) ((List.range n).flatMap fun _ => z).toArray (ps.map fun p => (p.1, a.eval p.2)).toList = some us.toArray := by
                    rw [← q1]; congr 1; simp
                  simp only [execOp, ho]
                  by_cases h0 : n * zi.size = 0
                  · have hn : n = 0 := by
                      have := hsz.1
                      rcases Nat.mul_eq_zero.1 h0 with h0 | h0
                      · exact h0
                      · omega
                    subst hn
                    simp at hfl
                    have hr0 : Array.range 0 = #[] := rfl
                    simp [Instr.buildSlice, run_underlying hd, hs1, newRow, hr0]
                    simp [hfl]
                  · have hzc := zeros_cells (n := n) hzlen (by have := hsz.1; omega)
                    simp [Instr.buildSlice, run_underlying hd, hs1, hz1, hle, h0, mkV_cells h4, newRow]
                    simp at hzc hfl
                    simp [hzc, hfl]
                split at h
                · rename_i hn0
                  obtain ⟨us, q2, hrun⟩ := run I
                  refine ⟨_, _, h, ?_⟩
                  intro hh next Q hn
                  unfold Oper.wp
                  rw [hrun]
                  rw [hq] at hh hn
                  obtain ⟨hg, hb, _⟩ := lv_new hh
                  show next (a.put o.dst _) _
                  rw [hq]
                  refine hn (upd ν q (.slice (some ⟨w.heap.size, 0, none⟩) n n)) _ _ (I.new hU hg hb (by simp) (fun k hk => Below.heap_alloc _ _ _ hk) (fun k hk => ?_) (I.fr.alloc I.fr.size _) (fun m hL => ?_) _)
                  · injection hk with hk
                    have hk : w.heap.size = k := hk
                    omega
                  · obtain ⟨r1, r2, _⟩ : xs.length = n ∧ us.length = 0 ∧ True := by
                      subst hn0
                      have hz0 : out = [] ∧ xs = [] := by
                        cases out with
                        | nil => simp only [rows] at hxs; injection hxs with hxs; exact ⟨rfl, hxs.symm⟩
                        | cons _ _ => simp [rows] at hxs
                      refine ⟨by rw [hz0.2]; rfl, by rw [← q2.len, hz0.1]; rfl, trivial⟩
                    subst hn0
                    have hxn : xs = [] := List.eq_nil_of_length_eq_zero r1
                    have hun : us = [] := List.eq_nil_of_length_eq_zero r2
                    subst hxn hun
                    refine ⟨⟨[], ?_, Reps.none _ _⟩, of_one (c := .own q) ⟨((lv_set_new hg hb).1 q).2 (.inr rfl), by rw [upd_self]; rfl⟩⟩
                    rw [upd_self]
                    exact ⟨by simp, .inr ⟨w.heap.size, 0, #[], rfl, I.fr.size, heap_alloc_new w _, Nat.le_refl _, by unfold maxLen; omega, by simp, by simp⟩⟩
                · obtain ⟨ν', I'⟩ := I.freezes hU hfz
                  obtain ⟨us, q2, hrun⟩ := run I'
                  obtain ⟨r1, r2, r3⟩ := rows_rel I' (MayTell.frz hfz (fun j e t xs hj hb => fzs_in hj hb) _ _) ((rows_frz hfz n out).trans hxs) q2
                  refine ⟨_, _, h, ?_⟩
                  intro hh next Q hn
                  unfold Oper.wp
                  rw [hrun]
                  show next (a.put o.dst _) _
                  have hlt : ∀ q, Un U0 ν' (lv (chs (fzs hp out) hp)) q → q < w.heap.size := fun q hq => by
                    rcases hq with hq | ⟨j, hj, hb⟩
                    · exact Nat.lt_of_lt_of_le (hU q hq) I.fr.size
                    · exact (I'.lt hj hb).1
                  have hnl : List.length xs ≤ 9223372036854775807 := by
                    have h2 := hsz.2.1
                    have h1 := hsz.1
                    have := size_pos ty
                    have : n ≤ n * zi.size := Nat.le_mul_of_pos_right _ (by omega)
                    omega
                  refine hn ν' _ _ (I'.go o.dst _ _ (by simp) (fun q hq => Below.heap_alloc _ _ _ hq) (fun j hj q hq => (I'.lt hj hq).1) (of_one (c := .ro (.row e ty) xs) ⟨rfl, ?_⟩) (I.fr.alloc I.fr.size _))
                  have := rd_new (e := e) hlt r3 hnl
                  rw [r1] at this
                  exact this
              · cases h
            · cases h
          · cases h
        · cases h
      · cases h
    · cases h
  · cases h
theorem zeroB_rd {U : Nat → Prop} {L : Nat → Prop} : ∀ {t : Ty} {cs rest : List AC} {vs : List Value}, zeroB t cs = some rest → All2 (RelC U0 ν L w) cs vs → ∃ v1 v2, vs = v1 ++ v2 ∧ Rd U w t (dflt t) v1 ∧ All2 (RelC U0 ν L w) rest v2
  | .cons p q, cs, rest, vs, h, hr => by
    simp only [zeroB] at h
    split at h
    · rename_i cs1 h1
      obtain ⟨v1, v2, rfl, q1, q2⟩ := zeroB_rd h1 hr
      obtain ⟨v3, v4, rfl, q3, q4⟩ := zeroB_rd h q2
      exact ⟨v1 ++ v3, v4, (List.append_assoc ..).symm, ⟨v1, v3, rfl, q1, q3⟩, q4⟩
    · cases h
  | .row e t, c :: cs, rest, v :: vs, h, hr => by
    cases c <;> simp only [zeroB] at h <;> try (simp at h; done)
    injection h with h
    subst h
    have hv : v = .slice none 0 0 := hr.1
    subst hv
    exact ⟨[_], vs, rfl, ⟨none, 0, rfl, Nat.le_refl _, Nat.zero_le _, fun hn => absurd hn (Nat.lt_irrefl 0)⟩, hr.2⟩
  | .int k, c :: cs, rest, v :: vs, h, hr => by
    cases c with
    | ro t x =>
      cases t <;> simp only [zeroB] at h <;> try (simp at h; done)
      split at h
      · rename_i q
        injection h with h
        subst h
        obtain ⟨rfl, hx⟩ := q
        have hv := (List.cons.inj hr.1.2).1
        refine ⟨[v], vs, rfl, ?_, hr.2⟩
        rw [hv, hx]; rfl
      · cases h
    | _ => simp [zeroB] at h
  | .bool, c :: cs, rest, v :: vs, h, hr => by
    cases c with
    | ro t x =>
      cases t <;> simp only [zeroB] at h <;> try (simp at h; done)
      split at h
      · rename_i hx
        injection h with h
        subst h
        have hv := (List.cons.inj hr.1.2).1
        refine ⟨[v], vs, rfl, ?_, hr.2⟩
        rw [hv, hx]; rfl
      · cases h
    | _ => simp [zeroB] at h
  | .str, c :: cs, rest, v :: vs, h, hr => by
    cases c with
    | ro t x =>
      cases t <;> simp only [zeroB] at h <;> try (simp at h; done)
      split at h
      · rename_i hx
        injection h with h
        subst h
        have hv := (List.cons.inj hr.1.2).1
        refine ⟨[v], vs, rfl, ?_, hr.2⟩
        have : (x : ByteArray) = ⟨#[]⟩ := by
          cases hb : (x : ByteArray) with
          | mk b =>
            rw [hb] at hx
            congr 1
            exact Array.eq_empty_of_size_eq_zero (by simpa using hx)
        rw [hv, this]; rfl
      · cases h
    | _ => simp [zeroB] at h
  | .row _ _, [], _, _, h, _ => by simp [zeroB] at h
  | .int _, [], _, _, h, _ => by simp [zeroB] at h
  | .bool, [], _, _, h, _ => by simp [zeroB] at h
  | .str, [], _, _, h, _ => by simp [zeroB] at h
  | .row _ _, _ :: _, _, [], _, hr => hr.elim
  | .int _, _ :: _, _, [], _, hr => hr.elim
  | .bool, _ :: _, _, [], _, hr => hr.elim
  | .str, _ :: _, _, [], _, hr => hr.elim
theorem reps_take {α : Type} {Rr : α → List Value → Prop} {sz : Nat} {ps : List α} {cs : List Value} {n : Nat} (h : Reps Rr sz ps cs) (hn : n ≤ ps.length) : Reps Rr sz (ps.take n) (cs.take (n * sz)) := by
  have hns : n * sz ≤ cs.length := by rw [h.1]; exact Nat.mul_le_mul_right _ hn
  refine ⟨by simp [Nat.min_eq_left hn, Nat.min_eq_left hns], fun j p hj => ?_⟩
  rw [List.getElem?_take] at hj
  split at hj
  · rename_i hlt
    have hjs : j * sz + sz ≤ n * sz := by rw [← Nat.succ_mul]; exact Nat.mul_le_mul_right _ hlt
    have := h.2 j p hj
    rw [List.drop_take, List.take_take, Nat.min_eq_left (by omega)]
    exact this
  · cases hj
theorem ok_makeSlice (hΘ : Θ.ok P = true) (I : Inv U0 ν tm hp w0 a w) (hU : ∀ q, U0 q → q < w0.heap.size) {t : TypeId} {x y : Operand} (ho : o.op = .makeSlice t x y) (h : (stepT Θ S k tm hp o.dst (.makeSlice t x y) K).run = some r) : StepOk P Θ S k o U0 ν tm hp w0 a w K r := by
  simp only [stepT] at h
  split at h
  · rename_i i q hi hq
    split at h
    · rename_i e hk
      split at h
      · rename_i zi hzi
        split at h
        · rename_i ty hty
          split at h
          · rename_i hc
            obtain ⟨hsz, hzb, hb0⟩ := hc
            replace hzb := zeroOk_iff hzb
            split at h
            · rename_i kl n kc c hx hy
              obtain ⟨h0, h⟩ := Tree.need h
              obtain ⟨hnc, h⟩ := Tree.need h
              obtain ⟨hby, h⟩ := Tree.need h
              have h1 := ro_int (hx ▸ I.opnd x)
              have h2 := ro_int (hy ▸ I.opnd y)
              obtain ⟨_, d, _, hd, _, _, hB, _⟩ := kind_of hΘ hi
              rw [hk] at hB
              rw [kind_slice hB] at hd
              obtain ⟨f, _, hinf, _, hs, hbf, _, _, hzl, z, hz, hzc⟩ := kind_of hΘ hzi
              have hzr : All2 (RelC U0 ν (lv hp) w) zi.zero z := zcs_rel hzc
              have h4 : ∀ u ∈ z, u.oneCell' = true := fun u hu => by
                obtain ⟨c, _, hr⟩ := hzr.mem u hu
                exact hr.one I.ones
              have htn : (n : Int).toNat ≤ (c : Int).toNat := Int.toNat_le_toNat hnc
              have hc0 : 0 ≤ (c : Int) := Int.le_trans h0 hnc
              have hcm : (c : Int).toNat ≤ 281474976710656 := Nat.le_trans (Nat.le_mul_of_pos_right _ (Nat.pos_of_ne_zero hb0)) hby
              have hr := run_make (P := P) w t e f (mkV z) hd hinf hz kl kc n c h0 hnc (by
                have h3 : ((f.bytes * (c : Int).toNat : Nat) : Int) ≤ 281474976710656 := by rw [hbf, Nat.mul_comm]; omega
                rw [Int.natCast_mul, Int.toNat_of_nonneg hc0] at h3
                exact h3) (by omega)
              rw [mkV_cells h4, hs, hsz] at hr
              refine ⟨_, _, h, ?_⟩
              intro hh next Q hn
              have hrun : (execOp a.eval o).run P w = .ok (.value (.slice (some ⟨w.heap.size, 0, none⟩) (n : Int).toNat (c : Int).toNat)) (w.alloc (.cells (madeCells z.toArray ((c : Int).toNat * ty.size)) e)) := by
                simp [execOp, ho, h1, h2, hr]
              unfold Oper.wp
              rw [hrun]
              rw [hq] at hh hn
              obtain ⟨hg, hb, _⟩ := lv_new hh
              show next (a.put o.dst _) _
              rw [hq]
              refine hn (upd ν q (.slice (some ⟨w.heap.size, 0, none⟩) (n : Int).toNat (c : Int).toNat)) _ _ (I.new hU hg hb (by simp) (fun k hk => Below.heap_alloc _ _ _ hk) (fun k hk => ?_) (I.fr.alloc I.fr.size _) (fun m hL => ?_) _)
              · injection hk with hk
                have hk : w.heap.size = k := hk
                omega
              · refine ⟨⟨((madeCells z.toArray ((c : Int).toNat * ty.size)).toList).take ((n : Int).toNat * ty.size), ?_, ?_⟩, of_one (c := .own q) ⟨((lv_set_new hg hb).1 q).2 (.inr rfl), by rw [upd_self]; rfl⟩⟩
                · have hle : (n : Int).toNat * ty.size ≤ (c : Int).toNat * ty.size := Nat.mul_le_mul_right _ htn
                  rw [upd_self, kd_sz]
                  refine ⟨by simp [size_madeCells, Nat.min_eq_left hle], .inr ⟨w.heap.size, (c : Int).toNat, _, by simp, I.fr.size, heap_alloc_new w _, by simpa using htn, by unfold maxLen; omega, by simp [size_madeCells], by simp⟩⟩
                · obtain ⟨v1, v2, e1, e2, e3⟩ := zeroB_rd (U := Un U0 (upd ν q (.slice (some ⟨w.heap.size, 0, none⟩) (n : Int).toNat (c : Int).toNat)) (lv (hp.set q (.row e ty (List.replicate (n : Int).toNat (dflt ty)))))) hzb (hzr.imp fun _ _ z => RelC.move m hL z)
                  have : v2 = [] := by
                    cases v2 with
                    | nil => rfl
                    | cons _ _ => exact e3.elim
                  subst this
                  rw [List.append_nil] at e1
                  subst e1
                  have hzsz : z.length = ty.size := by rw [(kd ty).K_len e2.K, kd_sz]
                  have hm := Kd.reps_made (R := fun x c' => Rd (Un U0 (upd ν q (.slice (some ⟨w.heap.size, 0, none⟩) (n : Int).toNat (c : Int).toNat)) (lv (hp.set q (.row e ty (List.replicate (n : Int).toNat (dflt ty)))))) _ ty x c') (z := mkV z) (size := ty.size) (z0 := dflt ty) (by rw [mkV_cells h4]; simp [hzsz]) (size_pos ty) (by rw [mkV_cells h4]; exact e2) (c : Int).toNat
                  rw [mkV_cells h4] at hm
                  have := reps_take hm (n := (n : Int).toNat) (by simpa using htn)
                  rw [List.take_replicate, Nat.min_eq_left htn] at this
                  rw [kd_sz]
                  exact this
            · cases h
          · cases h
        · cases h
      · cases h
    · cases h
  · cases h
end
end Go.Proofs.YtldcgclbgbhffaaW.Abs

end
section
namespace Go.Proofs.YtldcgclbgbhffaaW.Abs
open Go.RowKit Go.Proofs.YtldcgclbgbhffaaW.PrintWords Go.Proofs.YtldcgclbgbhffaaW.PrintLast Go.Proofs.YtldcgclbgbhffaaW.PrintMore
set_option linter.unusedVariables false
set_option linter.unusedSectionVars false
set_option linter.unusedSimpArgs false

section
variable {P : Program} {Θ : Tab} {S : FuncId → Option FSpec} {k : Nat} {o : Oper} {U0 : Nat → Prop} {ν : Nat → Value} {tm : List AV} {hp : List AB} {w0 w : World} {a : Act} {R : Type} {K : AV → HC → Tree R} {r : R}
def grown (ν : Nat → Value) (src : List (Nat × AB)) (q : Nat) (v : Value) : Nat → Value := upd (match src with
  | (j, _) :: _ => upd ν j (.tuple #[ν j])
  | [] => ν) q v
theorem Inv.grow (I : Inv U0 ν tm hp w0 a w) (hU : ∀ k, U0 k → k < w0.heap.size) {src : List (Nat × AB)} {q : Nat} {b : AB} {v v' u : Value} {x : AV} {w' : World} (hsrc : (src = [] ∧ v.ownBlock = none) ∨ ∃ j e t xs, src = [(j, .used)] ∧ hp[j]? = some (.row e t xs) ∧ v = ν j) (hg : hp[q]? = some .gone) (hb : isGone b = false)
    (gr : w.grownBy w' v.ownBlock) (hv' : blk v' = v'.ownBlock) (hat : v'.ownBlock = v.ownBlock ∨ v'.ownBlock = some w.heap.size)
    (hB : Move (Un U0 ν (lv hp)) w w' (Un U0 (grown ν src q v') (lv ((chs src hp).set q b))) → (∀ j, lv hp j → lv ((chs src hp).set q b) j ∧ Kp ν (grown ν src q v') j) → RelB U0 (grown ν src q v') (lv ((chs src hp).set q b)) w0.heap.size w' q b ∧ RelV U0 (grown ν src q v') (lv ((chs src hp).set q b)) w' x u) (d : Option Tmp) :
    Inv U0 (grown ν src q v') (putT tm d x) ((chs src hp).set q b) w0 (a.put d u) w' := by
  obtain ⟨hlv0, hnq⟩ := lv_set_new hg hb
  have hql := (List.getElem?_eq_some_iff.1 hg).1
  -- what the source is
  have hj : ∀ j b', (j, b') ∈ src → b' = .used ∧ src = [(j, .used)] ∧ ∃ e t xs, hp[j]? = some (.row e t xs) ∧ v = ν j := fun j b' hm => by
    rcases hsrc with ⟨h, _⟩ | ⟨i, e, t, xs, h, h1, h2⟩
    · rw [h] at hm; cases hm
    · rw [h, List.mem_singleton] at hm
      injection hm with e1 e2
      subst e1 e2
      exact ⟨rfl, h, e, t, xs, h1, h2⟩
  have hchs : ∀ i, (chs src hp)[i]? = hp[i]? ∨ (src = [(i, .used)] ∧ (chs src hp)[i]? = some .used) := fun i => by
    rcases hsrc with ⟨h, _⟩ | ⟨j, e, t, xs, h, h1, _⟩
    · rw [h]; exact .inl rfl
    · rw [h]
      by_cases hij : j = i
      · subst hij
        exact .inr ⟨rfl, by simp [chs, (List.getElem?_eq_some_iff.1 h1).1]⟩
      · exact .inl (by simp [chs, List.getElem?_set_ne hij])
  have hgq : (chs src hp)[q]? = some .gone := by
    rcases hchs q with h | ⟨h, _⟩
    · rw [h, hg]
    · obtain ⟨_, _, e, t, xs, h1, _⟩ := hj q .used (by rw [h]; exact List.mem_singleton_self _)
      rw [hg] at h1; cases h1
  have hlc : ∀ i, lv (chs src hp) i ↔ lv hp i := fun i => by
    unfold lv
    rcases hchs i with h | ⟨h, h2⟩
    · rw [h]
    · obtain ⟨_, _, e, t, xs, h1, _⟩ := hj i .used (by rw [h]; exact List.mem_singleton_self _)
      rw [h1, h2]
      exact ⟨fun _ => ⟨_, rfl, rfl⟩, fun _ => ⟨_, rfl, rfl⟩⟩
  have hlv : ∀ i, lv ((chs src hp).set q b) i ↔ lv hp i ∨ i = q := fun i => ((lv_set_new hgq hb).1 i).trans (or_congr (hlc i) Iff.rfl)
  have hne : ∀ i, lv hp i → i ≠ q := fun i hi e => hnq (e ▸ hi)
  -- what becomes of the names
  have hν : ∀ i, i ≠ q → grown ν src q v' i = ν i ∨ (src = [(i, .used)] ∧ grown ν src q v' i = .tuple #[ν i] ∧ v = ν i ∧ ∃ e t xs, hp[i]? = some (.row e t xs)) := fun i hi => by
    rcases hsrc with ⟨h, _⟩ | ⟨j, e, t, xs, h, h1, h2⟩
    · exact .inl (by unfold grown; rw [upd_ne hi, h])
    · by_cases hij : i = j
      · subst hij
        exact .inr ⟨h, by unfold grown; rw [upd_ne hi, h]; exact upd_self, h2, e, t, xs, h1⟩
      · exact .inl (by unfold grown; rw [upd_ne hi, h]; exact upd_ne hij)
  have hνq : grown ν src q v' q = v' := upd_self
  have hL : ∀ i, lv hp i → lv ((chs src hp).set q b) i ∧ Kp ν (grown ν src q v') i := fun i hi => ⟨(hlv i).2 (.inl hi), by
    rcases hν i (hne i hi) with h | ⟨_, h, _, e, t, xs, h1⟩
    · exact .inl h
    · obtain ⟨_, A, c, hs⟩ := (I.mem i _ h1 rfl).row_rd (U := fun _ => False) (fun _ _ z => z.elim)
      exact .inr ⟨A, _, c, hs, h⟩⟩
  have hvb : ∀ k, v.ownBlock = some k → ∃ j, lv hp j ∧ blk (ν j) = some k ∧ src = [(j, .used)] := fun k hk => by
    rcases hsrc with ⟨_, h⟩ | ⟨j, e, t, xs, h, h1, h2⟩
    · rw [h] at hk; cases hk
    · refine ⟨j, ⟨_, h1, rfl⟩, ?_, h⟩
      obtain ⟨_, A, c, hs⟩ := (I.mem j _ h1 rfl).row_rd (U := fun _ => False) (fun _ _ z => z.elim)
      rw [h2, hs] at hk
      rw [hs]
      cases A with
      | none => cases hk
      | some ad => exact hk
  -- a block that is named now was named, or is new
  have hblk : ∀ i k, lv ((chs src hp).set q b) i → blk (grown ν src q v' i) = some k → (i ≠ q ∧ lv hp i ∧ blk (ν i) = some k ∧ v.ownBlock ≠ some k) ∨ (i = q ∧ (v.ownBlock = some k ∨ k = w.heap.size)) := fun i k hi h => by
    by_cases hiq : i = q
    · subst hiq
      rw [hνq, hv'] at h
      refine .inr ⟨rfl, ?_⟩
      rcases hat with z | z
      · exact .inl (z.symm.trans h)
      · rw [z] at h; injection h with h; exact .inr h.symm
    · have hi' : lv hp i := ((hlv i).1 hi).resolve_right hiq
      rcases hν i hiq with z | ⟨_, z, _⟩
      · rw [z] at h
        refine .inl ⟨hiq, hi', h, fun hk => ?_⟩
        obtain ⟨j, hjl, hjb, hs⟩ := hvb k hk
        by_cases hij : i = j
        · subst hij
          rcases hν i hiq with y | ⟨_, y, _⟩
          · rcases hsrc with ⟨s, _⟩ | ⟨j', e, t, xs, s, h1, h2⟩
            · rw [hs] at s; cases s
            · rw [hs] at s
              injection s with s _
              injection s with s _
              subst s
              obtain ⟨_, A, c, hsl⟩ := (I.mem i _ h1 rfl).row_rd (U := fun _ => False) (fun _ _ z => z.elim)
              unfold grown at y
              rw [upd_ne hiq, hs] at y
              have : (Value.tuple #[ν i]) = ν i := (upd_self (ν := ν) (t := i)).symm.trans y
              rw [hsl] at this
              cases this
          · rw [z] at y
            rcases hsrc with ⟨s, _⟩ | ⟨j', e, t, xs, s, h1, h2⟩
            · rw [hs] at s; cases s
            · rw [hs] at s
              injection s with s _
              injection s with s _
              subst s
              obtain ⟨_, A, c, hsl⟩ := (I.mem i _ h1 rfl).row_rd (U := fun _ => False) (fun _ _ z => z.elim)
              rw [hsl] at y
              cases y
        · exact I.dis i j hij hi' hjl k h hjb
      · rw [z] at h; cases h
  have m : Move (Un U0 ν (lv hp)) w w' (Un U0 (grown ν src q v') (lv ((chs src hp).set q b))) := by
    refine ⟨gr.size, fun k hk hu => gr.block k hk fun z => ?_, fun k hk hun => ?_⟩
    · obtain ⟨j, hjl, hjb, _⟩ := hvb k z.symm
      exact hu (.inr ⟨j, hjl, hjb⟩)
    · rcases hun with hun | ⟨i, hi, hbi⟩
      · exact .inl hun
      · rcases hblk i k hi hbi with ⟨_, h1, h2, _⟩ | ⟨_, h | h⟩
        · exact .inr ⟨i, h1, h2⟩
        · obtain ⟨j, hjl, hjb, _⟩ := hvb k h
          exact .inr ⟨j, hjl, hjb⟩
        · omega
  obtain ⟨hBq, hx⟩ := hB m hL
  have hF : Below w0.heap.size w0 w' := ⟨gr.os.trans I.fr.os, gr.tape.trans I.fr.tape, gr.output.trans I.fr.output, Nat.le_trans I.fr.size gr.size, fun k hk => by
    have := I.fr.size
    rw [gr.block k (by omega) (fun z => ?_), I.fr.block k hk]
    obtain ⟨j, hjl, hjb, _⟩ := hvb k z.symm
    have := (I.lt hjl hjb).2
    omega⟩
  refine I.put d x u m hL hx (fun i b' h1 h2 => ?_) (fun i i' hii hi hi' k h1 h2 => ?_) hF
  · by_cases hiq : q = i
    · subst hiq
      rw [List.getElem?_set_self (List.getElem?_eq_some_iff.1 hgq).1] at h1
      injection h1 with h1
      subst h1
      exact hBq
    · rw [List.getElem?_set_ne hiq] at h1
      rcases hchs i with z | ⟨z, z2⟩
      · rw [z] at h1
        rcases hν i (fun e => hiq e.symm) with y | ⟨s, y, _, e, t, xs, y2⟩
        · refine (I.mem i b' h1 h2).move m hL y fun k hk => gr.block k (I.lt ⟨b', h1, h2⟩ hk).1 fun zz => ?_
          have := hblk i k ((hlv i).2 (.inl ⟨b', h1, h2⟩)) (by rw [y]; exact hk)
          rcases this with ⟨_, _, _, z3⟩ | ⟨z3, _⟩
          · exact z3 zz.symm
          · exact hiq z3.symm
        · rcases hchs i with _ | ⟨_, z4⟩
          · have : (chs src hp)[i]? = some .used := by rw [s]; simp [chs, (List.getElem?_eq_some_iff.1 y2).1]
            rw [z, h1] at this
            injection this with this
            subst this
            rw [h1] at y2; cases y2
          · rw [z, h1] at z4
            injection z4 with z4
            subst z4
            rw [h1] at y2; cases y2
      · rw [z2] at h1
        injection h1 with h1
        subst h1
        rcases hν i (fun e => hiq e.symm) with y | ⟨s, y, _, e, t, xs, y2⟩
        · obtain ⟨_, _, e, t, xs, h1, _⟩ := hj i .used (by rw [z]; exact List.mem_singleton_self _)
          obtain ⟨_, A, c, hsl⟩ := (I.mem i _ h1 rfl).row_rd (U := fun _ => False) (fun _ _ z => z.elim)
          unfold grown at y
          rw [upd_ne (fun e => hiq e.symm), z] at y
          have : (Value.tuple #[ν i]) = ν i := (upd_self (ν := ν) (t := i)).symm.trans y
          rw [hsl] at this
          cases this
        · obtain ⟨_, A, c, hsl⟩ := (I.mem i _ y2 rfl).row_rd (U := fun _ => False) (fun _ _ z => z.elim)
          exact ⟨ν i, y, by rw [hsl]; rfl⟩
  · rcases hblk i k hi h1 with ⟨n1, l1, b1, c1⟩ | ⟨n1, c1⟩ <;> rcases hblk i' k hi' h2 with ⟨n2, l2, b2, c2⟩ | ⟨n2, c2⟩
    · exact I.dis i i' hii l1 l2 k b1 b2
    · rcases c2 with c2 | c2
      · exact c1 c2
      · have := (I.lt l1 b1).1; omega
    · rcases c1 with c1 | c1
      · exact c2 c1
      · have := (I.lt l2 b2).1; omega
    · exact hii (n1.trans n2.symm)
theorem rd_now {U : Nat → Prop} {e : TypeId} {t : Ty} {ys : List (T t)} {v : Value} (h : Rd U w (.row e t) ys [v]) : ∃ A cp news, v = .slice A (List.length ys) cp ∧ List.length ys ≤ cp ∧ Reps (fun x c => Rd U w t x c) t.size ys news ∧ (∀ ad, A = some ad → ∀ i u, news[i]? = some u → w.cell? (ad.add i) = some u) ∧ (A = none → ys = []) ∧ List.length ys ≤ 9223372036854775807 := by
  obtain ⟨A, cp, h1, h2, h3, h4⟩ := h
  have h1 := (List.cons.inj h1).1
  rcases Nat.eq_zero_or_pos (List.length ys) with hz | hz
  · obtain rfl : ys = [] := List.eq_nil_of_length_eq_zero hz
    exact ⟨A, cp, [], h1, h2, Reps.none _ _, fun _ _ i u hu => by simp at hu, fun _ => rfl, h3⟩
  · obtain ⟨ad, rfl, h5⟩ := h4 hz
    have hR : ReadsRow (fun x c => Rd U w t x c) t.size w (some ad) (List.length ys) ys := ⟨rfl, h3, fun _ => ⟨ad, rfl, fun j p hj => by
      obtain ⟨c, q1, q2⟩ := h5 j p hj
      exact ⟨c, by rw [(kd t).K_len q1.K, kd_sz], q1, fun i u hu => (q2 i u hu).now⟩⟩⟩
    obtain ⟨inner, q1, q2⟩ := ReadsRow.inner_ hR
    exact ⟨some ad, cp, inner, h1, h2, q1, fun ad' e' => by injection e' with e'; subst e'; exact q2, fun z => (by cases z), h3⟩
theorem row_now (I : Inv U0 ν tm hp w0 a w) {e : TypeId} {t : Ty} {c : AC} {ys : List (T t)} {v : Value} (h : rdRow hp e t c = some ys) (hv : RelC U0 ν (lv hp) w c v) : ∃ A cp news, v = .slice A (List.length ys) cp ∧ List.length ys ≤ cp ∧ Reps (fun x c => Rd (Un U0 ν (lv hp)) w t x c) t.size ys news ∧ (∀ ad, A = some ad → ∀ i u, news[i]? = some u → w.cell? (ad.add i) = some u) ∧ (A = none → ys = []) ∧ List.length ys ≤ 9223372036854775807 := by
  unfold rdRow at h
  split at h
  · rename_i xs hx
    injection h with h
    subst h
    cases c with
    | ro t' y =>
      simp only [toT] at hx
      split at hx
      · rename_i e'
        subst e'
        injection hx with hx
        injection hx with hx _
        subst hx
        exact rd_now hv.2
      · cases hx
    | nils =>
      simp only [toT] at hx
      injection hx with hx
      injection hx with hx _
      subst hx
      have hv : v = .slice none 0 0 := hv
      exact ⟨none, 0, [], hv, Nat.le_refl _, Reps.none _ _, fun _ z => (by cases z), fun _ => rfl, by simp⟩
    | own j =>
      simp only [toT] at hx
      split at hx
      · rename_i zs hz
        injection hx with hx
        injection hx with hx _
        subst hx
        unfold ownRow at hz
        split at hz
        · rename_i e' t' ws hb
          split at hz
          · rename_i q
            obtain ⟨rfl, rfl⟩ := q
            injection hz with hz
            subst hz
            obtain ⟨inner, h1, h2⟩ := I.mem j _ hb rfl
            rw [kd_sz] at h2
            have hv : v = ref (ν j) := hv.2
            rcases h1.2 with ⟨q1, q2⟩ | ⟨g, cap, cur, q1, q2, q3, q4, q5, q6, q7⟩
            · obtain rfl : ws = [] := List.eq_nil_of_length_eq_zero q2
              rw [q1] at hv
              exact ⟨none, 0, [], hv, Nat.le_refl _, Reps.none _ _, fun _ z => (by cases z), fun _ => rfl, by simp⟩
            · refine ⟨some ⟨g, 0, none⟩, cap, inner, by rw [hv, q1]; rfl, q4, h2, fun ad z => ?_, fun z => (by cases z), Nat.le_trans q4 (by unfold maxLen at q5; omega)⟩
              injection z with z
              subst z
              intro i u hu
              rw [← q7, List.getElem?_take] at hu
              split at hu
              · rw [add_at, blk_cell q3, Nat.zero_add]
                simpa using hu
              · cases hu
          · cases hz
        · rename_i e' t' ws hb
          split at hz
          · rename_i q
            obtain ⟨rfl, rfl⟩ := q
            injection hz with hz
            subst hz
            obtain ⟨u, h1, h2⟩ := I.mem j _ hb rfl
            have : v = u := by rw [hv.2, h1]; rfl
            rw [this]
            exact rd_now h2
          · cases hz
        · cases hz
      · cases hx
    | _ => simp [toT] at hx
  · cases h
theorem grow_now (I : Inv U0 ν tm hp w0 a w) {e : TypeId} {t : Ty} {c : AC} {src : List (Nat × AB)} {xs : List (T t)} {v : Value} (h : growRow hp e t c = some (src, xs)) (hv : RelC U0 ν (lv hp) w c v) :
    ∃ inner, w.ownsRow w0.heap.size e (kd t).sz v (List.length xs) inner ∧ Reps (fun x c => Rd (Un U0 ν (lv hp)) w t x c) (kd t).sz xs inner ∧ ((src = [] ∧ v.ownBlock = none) ∨ ∃ j e t xs, src = [(j, .used)] ∧ hp[j]? = some (.row e t xs) ∧ v = ν j) := by
  cases c with
  | nils =>
    simp only [growRow] at h
    injection h with h
    injection h with h1 h2
    subst h1 h2
    have hv : v = .slice none 0 0 := hv
    subst hv
    exact ⟨[], World.ownsRow_nil w _ _ _, Reps.none _ _, .inl ⟨rfl, rfl⟩⟩
  | own j =>
    simp only [growRow] at h
    split at h
    · rename_i e' t' ws hb
      split at h
      · rename_i q
        obtain ⟨rfl, rfl⟩ := q
        injection h with h
        injection h with h1 h2
        subst h1 h2
        obtain ⟨inner, h1, h2⟩ := I.mem j _ hb rfl
        have : v = ν j := by
          rw [hv.2]
          rcases h1.2 with ⟨q1, _⟩ | ⟨_, _, _, q1, _⟩ <;> rw [q1] <;> rfl
        subst this
        exact ⟨inner, h1, h2, .inr ⟨j, e', t', ws, rfl, hb, rfl⟩⟩
      · cases h
    · cases h
  | _ => simp [growRow] at h
theorem reps_app {α : Type} {Rr : α → List Value → Prop} {sz : Nat} {xs ys : List α} {cs ds : List Value} (h : Reps Rr sz xs cs) (h' : Reps Rr sz ys ds) : Reps Rr sz (xs ++ ys) (cs ++ ds) := by
  refine ⟨by rw [List.length_append, List.length_append, h.1, h'.1, Nat.add_mul], fun j p hj => ?_⟩
  rcases Nat.lt_or_ge j xs.length with hl | hl
  · rw [List.getElem?_append_left hl] at hj
    have hs : j * sz + sz ≤ cs.length := by rw [h.1, ← Nat.succ_mul]; exact Nat.mul_le_mul_right _ hl
    have := h.2 j p hj
    rw [List.drop_append_of_le_length (by omega), List.take_append_of_le_length (by rw [List.length_drop]; omega)]
    exact this
  · rw [List.getElem?_append_right hl] at hj
    have hs : cs.length ≤ j * sz := by rw [h.1]; exact Nat.mul_le_mul_right _ hl
    have := h'.2 _ p hj
    rw [List.drop_append, List.drop_eq_nil_of_le hs, List.nil_append, h.1, ← Nat.sub_mul]
    exact this
theorem ok_append (hΘ : Θ.ok P = true) (I : Inv U0 ν tm hp w0 a w) (hU : ∀ k, U0 k → k < w0.heap.size) {c : Call} (hc : c.callee = .builtin .append) (ho : o.op = .call c) (h : (stepT Θ S k tm hp o.dst (.call c) K).run = some r) : StepOk P Θ S k o U0 ν tm hp w0 a w K r := by
  simp only [stepT, hc] at h
  split at h
  · rename_i x y t t2 q hxs hts hq
    split at h
    · rename_i htt
      subst htt
      have hop : o.op = .call { callee := .builtin .append, args := #[x, y], argTypes := #[t, t] } := by
        rw [ho, two_args hc hxs]
        congr 2
        exact Array.toList_inj.1 hts
      split at h
      · rename_i i hi
        split at h
        · rename_i e hk
          split at h
          · rename_i z hz
            split at h
            · rename_i ty hty
              split at h
              · rename_i hzz
                obtain ⟨hsz, hb0⟩ := hzz
                split at h
                · rename_i cx cy hx hy
                  split at h
                  · rename_i src xs ys hg hr
                    · obtain ⟨hby, h⟩ := Tree.need h
                      obtain ⟨_, d, _, hd, _, _, hB, _⟩ := kind_of hΘ hi
                      rw [hk] at hB
                      rw [kind_slice hB] at hd
                      obtain ⟨f, _, hinf, _, hs, hbf, _, _, hzl, zv, hzv, hzc⟩ := kind_of hΘ hz
                      have hzr : All2 (RelC U0 ν (lv hp) w) z.zero zv := zcs_rel hzc
                      have h4 : ∀ u ∈ zv, u.oneCell' = true := fun u hu => by
                        obtain ⟨c, _, hr⟩ := hzr.mem u hu
                        exact hr.one I.ones
                      obtain ⟨inner, g1, g2, g3⟩ := grow_now I hg (val_one (hx ▸ I.opnd x))
                      obtain ⟨A, cp, news, n1, n2, n3, n4, n5, n6⟩ := row_now I hr (val_one (hy ▸ I.opnd y))
                      have hbase := I.fr.size
                      have hby' := hby
                      have hksz := kd_sz ty
                      have hn63 : List.length xs + List.length ys ≤ maxLen := by
                        clear hby'
                        have : List.length xs + List.length ys ≤ (List.length xs + List.length ys) * z.bytes := Nat.le_mul_of_pos_right _ (Nat.pos_of_ne_zero hb0)
                        unfold maxLen; omega
                      -- what the append comes to
                      have hrun : ∃ v' w', (Builtin.append_ #[t, t] o.type #[a.eval x, a.eval y]).run P w = .ok v' w' ∧ w'.ownsRow w0.heap.size e (kd ty).sz v' (List.length xs + List.length ys) (inner ++ news) ∧ w.grownBy w' (a.eval x).ownBlock ∧ (v'.ownBlock = (a.eval x).ownBlock ∨ v'.ownBlock = some w.heap.size) := by
                        have hnl : news.length = List.length ys * ty.size := n3.1
                        cases A with
                        | none =>
                          obtain rfl := n5 rfl
                          have hnn : news = [] := List.eq_nil_of_length_eq_zero (by rw [hnl]; simp)
                          subst hnn
                          refine ⟨a.eval x, w, ?_, by simpa using g1, World.grownBy.refl w _, .inl rfl⟩
                          rw [n1]
                          rcases g1.2 with ⟨q1, q2⟩ | ⟨g, cap, cur, q1, _, _, hnc, _⟩
                          · rw [q1]; simp [Builtin.append_, run_underlying hd, sizeOf, typeInfo, hinf, Builtin.lenOf, Builtin.firstCells]
                          · rw [q1]; simp [Builtin.append_, run_underlying hd, sizeOf, typeInfo, hinf, Builtin.lenOf, Builtin.firstCells, hnc, storeCells]
                        | some ad =>
                          have hone : ∀ u ∈ news, u.oneCell' = true := by
                            intro u hu
                            obtain ⟨q, hq, rfl⟩ := List.mem_iff_getElem.1 hu
                            have hpos := size_pos ty
                            have hql : q / ty.size < List.length ys := by
                              rw [Nat.div_lt_iff_lt_mul hpos, ← hnl]
                              exact hq
                            have hc := n3.2 (q / ty.size) _ (List.getElem?_eq_getElem hql)
                            refine (kd ty).K_one hc.K _ ?_
                            rw [List.mem_iff_getElem?]
                            refine ⟨q % ty.size, ?_⟩
                            rw [List.getElem?_take, if_pos (Nat.mod_lt _ hpos), List.getElem?_drop, Nat.mul_comm, Nat.div_add_mod, List.getElem?_eq_getElem hq]
                          obtain ⟨v', w', r1, r2, r3, _, r4⟩ := run_append_own_at (P := P) w w0.heap.size t o.type e f (mkV zv) (kd ty).sz z.bytes hd hinf hzv (by rw [hs, hsz, hksz]) hbf (by rw [mkV_cells h4, hksz]; simp [← hsz, ← hzl, hzr.len]) (by rw [hksz]; exact size_pos ty) (a.eval x) (List.length xs) inner g1 ad (List.length ys) cp news (by rw [hksz]; exact hnl) (n4 ad rfl) hone hn63 hby' hbase
                          rw [n1]
                          exact ⟨v', w', r1, r2, r3, r4⟩
                      obtain ⟨v', w', r1, r2, r3, r4⟩ := hrun
                      refine ⟨_, _, h, ?_⟩
                      intro hh next Q hn
                      have he : (execOp a.eval o).run P w = .ok (.value v') w' := by
                        simp only [execOp, hop, resolve]
                        simp [invoke, builtin, r1]
                      unfold Oper.wp
                      rw [he]
                      rw [hq] at hh hn
                      obtain ⟨hgq, hb, _⟩ := lv_new hh
                      show next (a.put o.dst _) _
                      rw [hq]
                      refine hn (grown ν src q v') v' w' (I.grow hU g3 hgq hb r3 ?_ r4 (fun m hL => ?_) _)
                      · rcases r2.2 with ⟨z, _⟩ | ⟨_, _, _, z, _⟩ <;> rw [z] <;> rfl
                      · have hνq : grown ν src q v' q = v' := upd_self
                        refine ⟨⟨inner ++ news, by rw [hνq, List.length_append]; exact r2, ?_⟩, of_one (c := .own q) ⟨?_, ?_⟩⟩
                        · have := reps_app (by rw [hksz] at g2; exact g2) n3
                          rw [hksz]
                          exact this.imp_ fun _ _ z => z.move m
                        · exact ⟨_, List.getElem?_set_self (by
                            have := (List.getElem?_eq_some_iff.1 hgq).1
                            have hlen : ∀ (l : List (Nat × AB)), (chs l hp).length = hp.length := by
                              intro l
                              induction l with
                              | nil => rfl
                              | cons p l ih => simp [chs, ih]
                            rw [hlen]; exact this), hb⟩
                        · rw [hνq]
                          rcases r2.2 with ⟨z, _⟩ | ⟨_, _, _, z, _⟩ <;> rw [z] <;> rfl
                  · cases h
                · cases h
              · cases h
            · cases h
          · cases h
        · cases h
      · cases h
    · cases h
  · cases h
end
end Go.Proofs.YtldcgclbgbhffaaW.Abs

end
section
namespace Go.Proofs.YtldcgclbgbhffaaW.Abs
open Go.RowKit Go.Proofs.YtldcgclbgbhffaaW.PrintWords Go.Proofs.YtldcgclbgbhffaaW.PrintLast Go.Proofs.YtldcgclbgbhffaaW.PrintMore
set_option linter.unusedVariables false
set_option linter.unusedSectionVars false
set_option linter.unusedSimpArgs false

section
variable {P : Program} {Θ : Tab} {S : FuncId → Option FSpec} {k : Nat} {o : Oper} {U0 : Nat → Prop} {ν : Nat → Value} {tm : List AV} {hp : List AB} {w0 w : World} {a : Act} {R : Type} {K : AV → HC → Tree R} {r : R}
theorem bnd_rel (I : Inv U0 ν tm hp w0 a w) {x : Option Operand} {l : Option Int} (h : bnd? tm x = some l) : (x = none ∧ l = none) ∨ ∃ k n, l = some n ∧ x.map a.eval = some (.int k n) := by
  unfold bnd? at h
  split at h
  · injection h with h; exact .inl ⟨rfl, h.symm⟩
  · rename_i o'
    split at h
    · rename_i kk n hx
      injection h with h
      have hv := ro_int (hx ▸ I.opnd o')
      exact .inr ⟨kk, n, h.symm, by simp [hv]⟩
    · cases h
theorem bounds_run (I : Inv U0 ν tm hp w0 a w) {b : Bool} {len cap : Nat} {lo hi : Option Operand} {l h : Option Int} (hl : bnd? tm lo = some l) (hh : bnd? tm hi = some h) (h0 : 0 ≤ l.getD 0) (h1 : l.getD 0 ≤ h.getD len) (h2 : h.getD len ≤ cap) :
    (Instr.sliceBounds b len cap (lo.map a.eval) (hi.map a.eval) none).run P w = .ok ((l.getD 0).toNat, (h.getD len).toNat, cap) w := by
  rcases bnd_rel I hl with ⟨e1, e2⟩ | ⟨k1, n1, e1, e2⟩ <;> rcases bnd_rel I hh with ⟨f1, f2⟩ | ⟨k2, n2, f1, f2⟩
  · subst e1 e2 f1 f2
    simp [Instr.sliceBounds]
  · subst e1 e2 f1
    simp only [Option.getD_some, Option.getD_none] at h0 h1 h2 ⊢
    simp [Instr.sliceBounds, f2, run_sliceBound w k2 n2 cap _ h1 h2]
  · subst e1 f1 f2
    simp only [Option.getD_some, Option.getD_none] at h0 h1 h2 ⊢
    simp [Instr.sliceBounds, e2, run_sliceBound w k1 n1 len _ h0 h1]
  · subst e1 f1
    simp only [Option.getD_some] at h0 h1 h2 ⊢
    have hb : n1 ≤ ((n2.toNat : Nat) : Int) := by omega
    simp [Instr.sliceBounds, e2, f2, run_sliceBound w k2 n2 cap _ (by omega) h2, run_sliceBound w k1 n1 n2.toNat _ h0 hb]
theorem cut_rd {U : Nat → Prop} {e : TypeId} {t : Ty} {xs : List (T t)} {A : Option Addr} {cp l h : Nat} (hr : Rd U w (.row e t) xs [.slice A (List.length xs) cp]) (hl : l ≤ h) (hh : h ≤ List.length xs) :
    Rd U w (.row e t) ((xs.take h).drop l) [.slice (if cp = l then A else A.map (·.add (l * t.size))) (h - l) (cp - l)] := by
  obtain ⟨A', cp', h1, h2, h3, h4⟩ := hr
  have h1 := (List.cons.inj h1).1
  injection h1 with e1 e2 e3
  subst e1 e3
  have hlen : ((xs.take h).drop l).length = h - l := by rw [List.length_drop, List.length_take]; omega
  refine ⟨_, cp - l, by rw [hlen], ?_, ?_, fun hn => ?_⟩
  · show ((xs.take h).drop l).length ≤ _
    omega
  · show ((xs.take h).drop l).length ≤ _
    have : List.length xs ≤ 9223372036854775807 := h3
    omega
  · have hn : 0 < ((xs.take h).drop l).length := hn
    obtain ⟨ad, rfl, h5⟩ := h4 (show 0 < List.length xs by omega)
    have : List.length xs ≤ cp := h2
    refine ⟨ad.add (l * t.size), by rw [if_neg (by omega)]; rfl, fun j p hj => ?_⟩
    have hj : ((xs.take h).drop l)[j]? = some p := hj
    rw [List.getElem?_drop, List.getElem?_take] at hj
    split at hj
    · obtain ⟨c', q1, q2⟩ := h5 (l + j) p hj
      refine ⟨c', q1, fun i u hu => ?_⟩
      have := q2 i u hu
      rw [add_add, show l * t.size + (j * t.size + i) = (l + j) * t.size + i by rw [Nat.add_mul, Nat.add_assoc]]
      exact this
    · cases hj
theorem ok_slice (hΘ : Θ.ok P = true) (I : Inv U0 ν tm hp w0 a w) (hU : ∀ k, U0 k → k < w0.heap.size) {t : TypeId} {x : Operand} {lo hi mx : Option Operand} (ho : o.op = .slice t x lo hi mx) (h : (stepT Θ S k tm hp o.dst (.slice t x lo hi mx) K).run = some r) : StepOk P Θ S k o U0 ν tm hp w0 a w K r := by
  simp only [stepT] at h
  split at h
  · rename_i i hti
    split at h
    · rename_i e c l h' hk hx hl hh
      split at h
      · rename_i z hz
        split at h
        · rename_i ty hty
          split at h
          · rename_i hsz
            split at h
            · rename_i xs hxs
              simp only [fO_eq] at h
              obtain ⟨h0, h⟩ := Tree.need h
              obtain ⟨h1, h⟩ := Tree.need h
              obtain ⟨h2, h⟩ := Tree.need h
              obtain ⟨_, d, _, hd, _, _, hB, _⟩ := kind_of hΘ hti
              rw [hk] at hB
              rw [kind_slice hB] at hd
              obtain ⟨f, _, hinf, _, hs, _⟩ := kind_of hΘ hz
              have hfz := fzs_ok (hp := hp) [c]
              obtain ⟨ν', I'⟩ := I.freezes hU hfz
              have hv := val_one (hx ▸ I'.opnd x)
              have htt : toT hp (.row e ty) [c] = some (xs, []) := by
                unfold rdRow at hxs
                split at hxs
                · rename_i ys hy; injection hxs with hxs; subst hxs; exact hy
                · cases hxs
              obtain ⟨v1, v2, e1, e2, e3⟩ := toT_told I hU hfz (fun j e t xs hj hb => fzs_in hj hb) htt I' (vs := [a.eval x]) ⟨hv, trivial⟩
              have : v2 = [] := by
                cases v2 with
                | nil => rfl
                | cons _ _ => exact e3.elim
              subst this
              rw [List.append_nil] at e1
              subst e1
              obtain ⟨A, cp, q1, q2, q3⟩ := e2
              have q1 := (List.cons.inj q1).1
              have hrd : Rd (Un U0 ν' (lv (chs (fzs hp [c]) hp))) w (.row e ty) xs [.slice A (List.length xs) cp] := ⟨A, cp, rfl, q2, q3⟩
              have hcp : h'.getD ((xs : List (T ty)).length : Int) ≤ (cp : Int) := Int.le_trans h2 (by
                have : List.length xs ≤ cp := q2
                exact_mod_cast this)
              have hb := bounds_run (P := P) I' (b := true) hl hh h0 h1 hcp
              have hel : P.elem t = e := by simp [Program.elem, hd]
              have hu : P.underlying t = some (.slice (P.elem t)) := by rw [hel]; exact hd
              have hrun : (execOp a.eval o).run P w = .ok (.value (sliced A (l.getD 0).toNat (h'.getD ((xs : List (T ty)).length : Int)).toNat cp ty.size)) w := by
                have hs1 : (sizeOf e).run P w = .ok ty.size w := by simp [sizeOf, typeInfo, hinf, hs, hsz]
                simp only [execOp, ho, q1, Option.map_none]
                simp [run_sliceAt_slice w t _ _ _ _ hu, run_slice_any w t A (List.length xs) cp hu, hb, hel, hs1, Result.andThen]
              refine ⟨_, _, h, ?_⟩
              intro _ next Q hn
              unfold Oper.wp
              rw [hrun]
              exact hn ν' _ w (I'.put_pure o.dst (of_one (c := .ro (.row e ty) _) ⟨rfl, cut_rd hrd (by omega) (by
                have := h2
                omega)⟩))
            · cases h
          · cases h
        · cases h
      · cases h
    · rename_i s l h' hk hx hl hh
      simp only [fO_eq] at h
      obtain ⟨h0, h⟩ := Tree.need h
      obtain ⟨h1, h⟩ := Tree.need h
      obtain ⟨h2, h⟩ := Tree.need h
      obtain ⟨_, d, _, hd, _, _, hB, _⟩ := kind_of hΘ hti
      rw [hk] at hB
      rw [kind_str hB] at hd
      have hv := ro_str (hx ▸ I.opnd x)
      have hb := bounds_run (P := P) I (b := false) hl hh h0 h1 h2
      refine ⟨_, _, h, goes_value I (v := .string ((s : ByteArray).extract (l.getD 0).toNat (h'.getD ((s : ByteArray).size : Int)).toNat)) ?_ (of_one (c := .ro .str _) ⟨rfl, rfl⟩)⟩
      simp only [execOp, ho, hv, Option.map_none]
      simp [run_sliceAt_string w t _ _ _ _ hd, Instr.slice, run_underlying hd, hb]
    · cases h
  · cases h
end
end Go.Proofs.YtldcgclbgbhffaaW.Abs

end
section
namespace Go.Proofs.YtldcgclbgbhffaaW.Abs
open Go.RowKit Go.Proofs.YtldcgclbgbhffaaW.PrintWords Go.Proofs.YtldcgclbgbhffaaW.PrintLast Go.Proofs.YtldcgclbgbhffaaW.PrintMore
set_option linter.unusedVariables false
set_option linter.unusedSectionVars false

section
variable {P : Program} {Θ : Tab} {S : FuncId → Option FSpec} {k : Nat} {o : Oper} {U0 : Nat → Prop} {ν : Nat → Value} {tm : List AV} {hp : List AB} {w0 w : World} {a : Act} {R : Type} {K : AV → HC → Tree R} {r : R}
theorem step_ok (hΘ : Θ.ok P = true) (hS : SpecsOk P S k) (I : Inv U0 ν tm hp w0 a w) (hU : ∀ q, U0 q → q < w0.heap.size) (h : (stepT Θ S k tm hp o.dst o.op K).run = some r) (hst : ∀ t x y, o.op = .store t x y → o.dst = none) : StepOk P Θ S k o U0 ν tm hp w0 a w K r := by
  cases ho : o.op <;> rw [ho] at h
  case move x => exact ok_move I (.inl ho) (by simpa only [stepT] using h)
  case assign x => exact ok_move I (.inr ho) (by simpa only [stepT] using h)
  case pick c x y => exact ok_pick I ho h
  case binOp b t x y u => exact ok_binOp hΘ I ho h
  case unOp b t x => exact ok_unOp I ho h
  case nilCheck x => exact ok_nilCheck I ho h
  case extract x i => exact ok_extract I ho h
  case convert s t x => exact ok_convert hΘ I ho h
  case load t x => exact ok_load hΘ I ho h
  case store t x y => exact ok_store hΘ I hU ho (hst t x y ho) h
  case fieldAddr s x f => exact ok_fieldAddr hΘ I ho h
  case indexAddr t x y => exact ok_indexAddr hΘ I ho h
  case index t x y => exact ok_index hΘ I ho h
  case box e x => exact ok_box I hU ho h
  case alloc e => exact ok_alloc hΘ I hU ho h
  case build t ps => exact ok_build hΘ I ho h
  case buildSlice t n ps => exact ok_buildSlice hΘ I hU ho h
  case makeSlice t x y => exact ok_makeSlice hΘ I hU ho h
  case slice t x lo hi mx => exact ok_slice hΘ I hU ho h
  case call c =>
    cases hc : c.callee with
    | value f =>
      cases f with
      | func g =>
        simp only [stepT, hc] at h
        split at h
        · rename_i s hs
          split at h
          · rename_i x hx
            exact ok_func hS I hU hc ho hs hx h
          · cases h
        · cases h
      | tmp _ => simp only [stepT, hc] at h; cases h
      | const _ => simp only [stepT, hc] at h; cases h
      | global _ => simp only [stepT, hc] at h; cases h
    | invoke _ _ => simp only [stepT, hc] at h; cases h
    | builtin b =>
      cases b
      case len => exact ok_len hΘ I hc ho h
      case max => exact ok_max I hc ho h
      case min => exact ok_min I hc ho h
      case append => exact ok_append hΘ I hU hc ho h
      all_goals (simp only [stepT, hc] at h; cases h)
  all_goals (simp only [stepT] at h; cases h)
end
section
variable {R : Type}
noncomputable def denOps (Θ : Tab) (S : FuncId → Option FSpec) (k : Nat) (ops : Array Oper) (l : List Oper) : List AV → List AB → (List AV → List AB → Tree R) → Tree R :=
  List.rec (motive := fun _ => List AV → List AB → (List AV → List AB → Tree R) → Tree R) (fun tm hp K => K tm hp) (fun o _ ih tm hp K => match o.guard with
    | none => stepT Θ S k tm hp o.dst o.op fun x δ => if hok o.dst hp δ = true then putF tm o.dst x fun tm' => happF o.dst hp δ fun hp' => ih tm' hp' K else .non
    | some (j, want) => match (ops[j]?).bind (·.dst) with
      | some t => match opnd tm (.tmp t) with
        | .val [.ro .bool b] => Tree.tst ((b : Bool) = want) (stepT Θ S k tm hp o.dst o.op fun x δ => if hok o.dst hp δ = true then putF tm o.dst x fun tm' => happF o.dst hp δ fun hp' => ih tm' hp' K else .non) (putF tm o.dst .un fun tm' => ih tm' hp K)
        | .un => putF tm o.dst .un fun tm' => ih tm' hp K
        | _ => .non
      | none => .non) l
theorem denOps_cons (Θ : Tab) (S : FuncId → Option FSpec) (k : Nat) (ops : Array Oper) (o : Oper) (rest : List Oper) (tm : List AV) (hp : List AB) (K : List AV → List AB → Tree R) : denOps Θ S k ops (o :: rest) tm hp K = (match o.guard with
    | none => stepT Θ S k tm hp o.dst o.op fun x δ => if hok o.dst hp δ = true then putF tm o.dst x fun tm' => happF o.dst hp δ fun hp' => denOps Θ S k ops rest tm' hp' K else .non
    | some (j, want) => match (ops[j]?).bind (·.dst) with
      | some t => match opnd tm (.tmp t) with
        | .val [.ro .bool b] => Tree.tst ((b : Bool) = want) (stepT Θ S k tm hp o.dst o.op fun x δ => if hok o.dst hp δ = true then putF tm o.dst x fun tm' => happF o.dst hp δ fun hp' => denOps Θ S k ops rest tm' hp' K else .non) (putF tm o.dst .un fun tm' => denOps Θ S k ops rest tm' hp K)
        | .un => putF tm o.dst .un fun tm' => denOps Θ S k ops rest tm' hp K
        | _ => .non
      | none => .non) := rfl
end
section
variable {P : Program} {Θ : Tab} {S : FuncId → Option FSpec} {k : Nat} {o : Oper} {U0 : Nat → Prop} {ν : Nat → Value} {tm : List AV} {hp : List AB} {w0 w : World} {a : Act} {R : Type} {r : R} {ops : Array Oper}
theorem yield_bool (I : Inv U0 ν tm hp w0 a w) {j : Nat} {t : Tmp} {b : Bool} (ht : (ops[j]?).bind (·.dst) = some t) (hb : opnd tm (.tmp t) = .val [.ro .bool b]) : yielded ops a.tmps j = some b := by
  have hv := ro_bool (hb ▸ I.opnd (.tmp t))
  have hv : a.tmps.getD t undef = .bool b := hv
  unfold yielded
  rw [ht]
  simp only [Option.bind_some]
  rw [Array.getD_eq_getD_getElem?] at hv
  cases hq : a.tmps[t]? with
  | none => rw [hq] at hv; simp [undef] at hv
  | some v =>
    rw [hq] at hv
    have hv : v = .bool b := hv
    subst hv
    rfl
def notW (want : Bool) : AV → Prop
  | .val [.ro .bool b] => ¬ (b : Bool) = want
  | .un => True
  | _ => False
theorem not_wanted (I : Inv U0 ν tm hp w0 a w) {j : Nat} {want : Bool} {t : Tmp} (hg : o.guard = some (j, want)) (ht : (ops[j]?).bind (·.dst) = some t) (h : notW want (opnd tm (.tmp t))) : ¬ Region.wanted o (yielded ops a.tmps) = true := by
  unfold notW at h
  split at h
  · rename_i b hb
    simpa [Region.wanted, hg, yield_bool I ht hb] using h
  · rename_i hu
    have hv : RelV U0 ν (lv hp) w .un (a.eval (.tmp t)) := hu ▸ I.opnd (.tmp t)
    have hv : a.tmps.getD t undef = undef := hv
    have hy : yielded ops a.tmps j = none := by
      unfold yielded
      rw [ht]
      simp only [Option.bind_some]
      rw [Array.getD_eq_getD_getElem?] at hv
      cases hq : a.tmps[t]? with
      | none => rfl
      | some v =>
        rw [hq] at hv
        have hv : v = undef := hv
        subst hv
        rfl
    simp [Region.wanted, hg, hy]
  · exact h.elim
theorem ops_ok {Q : Exit → Act → World → Prop} (hΘ : Θ.ok P = true) (hS : SpecsOk P S k) {K : List AV → List AB → Tree R} (hK : ∀ tm' hp', (K tm' hp').run = some r → ∀ ν' a' w', Inv U0 ν' tm' hp' w0 a' w' → Q .normal a' w') (hU0 : ∀ q, U0 q → q < w0.heap.size) :
    ∀ (l : List Oper) (tm : List AV) (hp : List AB) (ν : Nat → Value) (a : Act) (w : World), (∀ o ∈ l, ∀ t x y, o.op = .store t x y → o.dst = none) → (denOps Θ S k ops l tm hp K).run = some r → Inv U0 ν tm hp w0 a w → wpList P ops Q l a w
  | [], tm, hp, ν, a, w, _, h, I => hK tm hp h ν a w I
  | o :: rest, tm, hp, ν, a, w, hst, h, I => by
    have hst' : ∀ o ∈ rest, ∀ t x y, o.op = .store t x y → o.dst = none := fun o ho => hst o (List.mem_cons_of_mem _ ho)
    have go : (stepT Θ S k tm hp o.dst o.op fun x δ => if hok o.dst hp δ = true then denOps Θ S k ops rest (putT tm o.dst x) (happ o.dst hp δ) K else .non).run = some r → o.wp P a w (wpList P ops Q rest) Q := by
      intro h
      obtain ⟨x, δ, hx, hg⟩ := step_ok hΘ hS I hU0 h (hst o List.mem_cons_self)
      dsimp only at hx
      split at hx
      · rename_i hk
        exact hg hk _ _ fun ν' v w' I' => ops_ok hΘ hS hK hU0 rest _ _ ν' _ w' hst' hx I'
      · cases hx
    unfold wpList
    simp only [denOps_cons, putF_eq, happF_eq] at h
    split at h
    · rename_i hg
      rw [if_pos (by simp [Region.wanted, hg])]
      exact .inl (go h)
    · rename_i j want hg
      split at h
      · rename_i t ht
        split at h
        · rename_i b hb
          have hy := yield_bool I ht hb
          rcases Tree.tst_run h with ⟨hw, h⟩ | ⟨hw, h⟩
          · rw [if_pos (by simp [Region.wanted, hg, hy, hw])]
            exact .inl (go h)
          · rw [if_neg (by simpa [Region.wanted, hg, hy] using hw)]
            exact ops_ok hΘ hS hK hU0 rest _ _ ν _ w hst' h (I.put_pure o.dst (x := .un) (v := undef) rfl)
        · rename_i hu
          rw [if_neg (not_wanted I hg ht (by rw [hu]; trivial))]
          exact ops_ok hΘ hS hK hU0 rest _ _ ν _ w hst' h (I.put_pure o.dst (x := .un) (v := undef) rfl)
        · cases h
      · cases h
end
end Go.Proofs.YtldcgclbgbhffaaW.Abs

end
section
namespace Go.Proofs.YtldcgclbgbhffaaW.Abs
open Go.RowKit Go.Proofs.YtldcgclbgbhffaaW.PrintWords Go.Proofs.YtldcgclbgbhffaaW.PrintLast Go.Proofs.YtldcgclbgbhffaaW.PrintMore
set_option linter.unusedVariables false
set_option linter.unusedSectionVars false
set_option linter.unusedSimpArgs false

section
variable {Θ : Tab} {S : FuncId → Option FSpec} {k : Nat} {tm tm' : List AV} {hp hp' : List AB} {R : Type}
noncomputable def step (Θ : Tab) (S : FuncId → Option FSpec) (k : Nat) (tm : List AV) (hp : List AB) (d : Option Tmp) (o : Op) : Option (AV × HC) := (stepT Θ S k tm hp d o (fun x δ => .done (x, δ))).run
def Fit (x : Tree R) (y : Tree (AV × HC)) (K : AV → HC → Tree R) : Prop := x.run = y.run.bind fun p => (K p.1 p.2).run
theorem Fit.same (K : AV → HC → Tree R) (x : AV) (δ : HC) : Fit (K x δ) (.done (x, δ)) K := rfl
theorem Fit.non (K : AV → HC → Tree R) : Fit .non .non K := rfl
theorem Fit.tst {K : AV → HC → Tree R} {c : Prop} [d : Decidable c] {x y : Tree R} {x' y' : Tree (AV × HC)} (h1 : Fit x x' K) (h2 : Fit y y' K) : Fit (.tst c x y) (.tst c x' y') K := by
  show (if c then x.run else y.run) = (if c then x'.run else y'.run).bind _
  split
  · exact h1
  · exact h2
theorem Fit.cll {A : Type} {K : AV → HC → Tree R} {x : Option A} {f : A → Tree R} {g : A → Tree (AV × HC)} (h : ∀ a, Fit (f a) (g a) K) : Fit (.cll x f) (.cll x g) K := by
  show x.bind _ = (x.bind _).bind _
  cases x with
  | none => rfl
  | some a => exact h a
theorem stepT_bind (d : Option Tmp) (o : Op) (K : AV → HC → Tree R) : (stepT Θ S k tm hp d o K).run = (step Θ S k tm hp d o).bind (fun p => (K p.1 p.2).run) := by
  show Fit (stepT Θ S k tm hp d o K) (stepT Θ S k tm hp d o fun x δ => .done (x, δ)) K
  cases o <;> simp only [stepT, fO_eq] <;> (try unfold intBin) <;> (try unfold shiftBin) <;> (try unfold boolBin) <;> (try unfold strBin) <;> (repeat' (first | exact Fit.same _ _ _ | exact Fit.non _ | apply Fit.tst | (refine Fit.cll fun a => ?_) | split))
def reads : Op → List Operand
  | .move x | .assign x | .unOp _ _ x | .convert _ _ x | .extract x _ | .load _ x | .fieldAddr _ x _ | .box _ x | .nilCheck x => [x]
  | .pick c x y => [c, x, y]
  | .binOp _ _ x y _ | .store _ x y | .indexAddr _ x y | .index _ x y | .makeSlice _ x y => [x, y]
  | .slice _ x lo hi mx => x :: (lo.toList ++ hi.toList ++ mx.toList)
  | .build _ ps | .buildSlice _ _ ps => ps.toList.map (·.2)
  | .call c => c.args.toList
  | _ => []
def idC : AC → List Nat
  | .own j | .ptr j _ | .elt j _ _ _ => [j]
  | _ => []
def idV : AV → List Nat
  | .val cs => cs.flatMap idC
  | _ => []
theorem ownRow_congr {j : Nat} {e : TypeId} {t : Ty} (h : hp[j]? = hp'[j]?) : ownRow hp j e t = ownRow hp' j e t := by unfold ownRow; rw [h]
def SameAt (hp hp' : List AB) (cs : List AC) : Prop := ∀ j, AC.own j ∈ cs → hp[j]? = hp'[j]?
theorem SameAt.toT {cs : List AC} (h : SameAt hp hp' cs) (t : Ty) : toT hp t cs = toT hp' t cs ∧ ∀ x rest, toT hp t cs = some (x, rest) → ∀ c ∈ rest, c ∈ cs := toT_congr fun j _ _ hj => ownRow_congr (h j hj)
theorem SameAt.fzs : ∀ {cs : List AC}, SameAt hp hp' cs → fzs hp cs = fzs hp' cs
  | [], _ => rfl
  | c :: cs, h => by
    have ih := SameAt.fzs (cs := cs) fun j hj => h j (List.mem_cons_of_mem _ hj)
    cases c with
    | own j => simp only [Abs.fzs, h j List.mem_cons_self, ih]
    | _ => simp only [Abs.fzs, ih]
theorem SameAt.rows {t : Ty} : ∀ {n : Nat} {cs : List AC}, SameAt hp hp' cs → rows hp t n cs = rows hp' t n cs
  | 0, [], _ => rfl
  | 0, _ :: _, _ => rfl
  | n + 1, cs, h => by
    obtain ⟨h1, h2⟩ := h.toT t
    simp only [Abs.rows, ← h1]
    cases hx : Abs.toT hp t cs with
    | none => rfl
    | some y =>
      obtain ⟨x, cs'⟩ := y
      dsimp only
      rw [SameAt.rows (cs := cs') fun j hj => h j (h2 x cs' hx _ hj)]
theorem SameAt.sub {cs cs' : List AC} (h : SameAt hp hp' cs) (hs : ∀ c ∈ cs', c ∈ cs) : SameAt hp hp' cs' := fun j hj => h j (hs _ hj)
theorem SameAt.rd {c : AC} (h : SameAt hp hp' [c]) (e : TypeId) (t : Ty) : rdRow hp e t c = rdRow hp' e t c := by unfold rdRow; rw [(h.toT _).1]
theorem SameAt.grow {c : AC} (h : SameAt hp hp' [c]) (e : TypeId) (t : Ty) : growRow hp e t c = growRow hp' e t c := by
  cases c with
  | own j => simp only [growRow, h j List.mem_cons_self]
  | _ => rfl
theorem same_of {x : AV} (h : ∀ j ∈ idV x, hp[j]? = hp'[j]?) : SameAt hp hp' (cellsOf x) := by
  intro j hj
  cases x with
  | val cs => exact h j (List.mem_flatMap.2 ⟨_, hj, by simp [idC]⟩)
  | _ => cases hj
theorem args_congr : ∀ {ps : List Ty} {os : List Operand}, (∀ x ∈ os, opnd tm x = opnd tm' x) → (∀ x ∈ os, SameAt hp hp' (cellsOf (opnd tm x))) → args hp tm ps os = args hp' tm' ps os
  | [], [], _, _ => rfl
  | t :: ts, o :: os, h, h2 => by
    have ho := h2 o List.mem_cons_self
    simp only [args, ← h o List.mem_cons_self, args_congr (fun x hx => h x (List.mem_cons_of_mem _ hx)) (fun x hx => h2 x (List.mem_cons_of_mem _ hx))]
    cases hv : opnd tm o with
    | val cs =>
      rw [hv] at ho
      dsimp only
      rw [(SameAt.toT (cs := cs) ho t).1]
    | _ => rfl
  | [], _ :: _, _, _ => rfl
  | _ :: _, [], _, _ => rfl
theorem argFz_congr : ∀ {os : List Operand}, (∀ x ∈ os, opnd tm x = opnd tm' x) → (∀ x ∈ os, SameAt hp hp' (cellsOf (opnd tm x))) → argFz hp tm os = argFz hp' tm' os
  | [], _, _ => rfl
  | o :: os, h, h2 => by
    simp only [argFz, ← h o List.mem_cons_self, (h2 o List.mem_cons_self).fzs, argFz_congr (fun x hx => h x (List.mem_cons_of_mem _ hx)) (fun x hx => h2 x (List.mem_cons_of_mem _ hx))]
theorem fill_mem {place : Nat → Option (Nat × Nat)} : ∀ {l : List (Nat × AV)} {cs out : List AC}, fillC place cs l = some out → ∀ c ∈ out, c ∈ cs ∨ ∃ p ∈ l, c ∈ cellsOf p.2
  | [], cs, out, h, c, hc => by
    simp only [fillC] at h
    injection h with h
    subst h
    exact .inl hc
  | (i, v) :: l, cs, out, h, c, hc => by
    cases v with
    | val xs =>
      simp only [fillC] at h
      split at h
      · split at h
        · rcases fill_mem h c hc with q | ⟨p, q1, q2⟩
          · rcases List.mem_append.1 q with q | q
            · rcases List.mem_append.1 q with q | q
              · exact .inl (List.mem_of_mem_take q)
              · exact .inr ⟨_, List.mem_cons_self, q⟩
            · exact .inl (List.mem_of_mem_drop q)
          · exact .inr ⟨p, List.mem_cons_of_mem _ q1, q2⟩
        · cases h
      · cases h
    | _ => simp [fillC] at h
theorem noOwn_mem : ∀ {cs : List AC} {j : Nat}, noOwn cs = true → AC.own j ∉ cs
  | [], _, _, h => by cases h
  | c :: cs, j, h, hj => by
    cases c with
    | own i => simp [noOwn] at h
    | _ =>
      rcases List.mem_cons.1 hj with e | hj
      · cases e
      · exact noOwn_mem (cs := cs) (by simpa [noOwn] using h) hj
theorem step_congr (d : Option Tmp) (o : Op) (K : AV → HC → Tree R) (h1 : ∀ x ∈ reads o, opnd tm x = opnd tm' x) (h2 : ∀ x ∈ reads o, ∀ j ∈ idV (opnd tm x), hp[j]? = hp'[j]?) : stepT Θ S k tm hp d o K = stepT Θ S k tm' hp' d o K := by
  cases o
  case move x => simp only [stepT, h1 x (by simp [reads])]
  case assign x => simp only [stepT, h1 x (by simp [reads])]
  case pick c x y => simp only [stepT, h1 x (by simp [reads]), h1 y (by simp [reads]), h1 c (by simp [reads])]
  case binOp b t x y u => simp only [stepT, h1 x (by simp [reads]), h1 y (by simp [reads])]
  case unOp b t x => simp only [stepT, h1 x (by simp [reads])]
  case nilCheck x => simp only [stepT, h1 x (by simp [reads])]
  case extract x i => simp only [stepT, h1 x (by simp [reads])]
  case convert s t x => simp only [stepT, h1 x (by simp [reads])]
  case load t x =>
    have e := h1 x (by simp [reads])
    have q := h2 x (by simp [reads])
    simp only [stepT, ← e]
    split
    · rename_i j o i hx hi
      rw [hx] at q
      rw [q j (by simp [idV, idC])]
    · rfl
    · rename_i j i o sz z hx hi
      rw [hx] at q
      rw [q j (by simp [idV, idC])]
    · rfl
  case store t x y =>
    have e := h1 x (by simp [reads])
    have e2 := h1 y (by simp [reads])
    have q := h2 x (by simp [reads])
    have q2 := same_of (h2 y (by simp [reads]))
    simp only [stepT, ← e, ← e2]
    split
    · rename_i j o xs i hx hy hi
      rw [hx] at q
      rw [q j (by simp [idV, idC])]
    · rename_i j i sz ys z hx hy hi
      rw [hx] at q
      rw [hy] at q2
      have q2 : SameAt hp hp' ys := q2
      simp only [q j (by simp [idV, idC]), q2.fzs, (q2.toT _).1]
    · rfl
  case fieldAddr s x f => simp only [stepT, h1 x (by simp [reads])]
  case indexAddr t x y =>
    have q := h2 x (by simp [reads])
    have e := h1 x (by simp [reads])
    have e2 := h1 y (by simp [reads])
    simp only [stepT, ← e, ← e2]
    split
    · rfl
    · rename_i j kk i z hx hy hi
      rw [hx] at q
      simp only [q j (by simp [idV, idC])]
    · rfl
  case box e x => simp only [stepT, h1 x (by simp [reads])]
  case index t x y => simp only [stepT, h1 x (by simp [reads]), h1 y (by simp [reads])]
  case build t ps =>
    have e : (ps.toList.map fun p => (p.1, opnd tm p.2)) = ps.toList.map fun p => (p.1, opnd tm' p.2) := List.map_congr_left fun p hp => by rw [h1 p.2 (List.mem_map.2 ⟨p, hp, rfl⟩)]
    simp only [stepT, e]
  case buildSlice t n ps =>
    have e : (ps.toList.map fun p => (p.1, opnd tm p.2)) = ps.toList.map fun p => (p.1, opnd tm' p.2) := List.map_congr_left fun p hp => by rw [h1 p.2 (List.mem_map.2 ⟨p, hp, rfl⟩)]
    simp only [stepT, ← e]
    split
    · split
      · split
        · split
          · split
            · rename_i z hz ty hty hc
              split
              · rename_i cs q hf
                have hs : SameAt hp hp' cs := fun j hj => by
                  rcases fill_mem hf _ hj with q | ⟨p, q1, q2⟩
                  · obtain ⟨_, _, q⟩ := List.mem_flatMap.1 q
                    exact absurd q (noOwn_mem hc.2.2)
                  · obtain ⟨p2, hp2, rfl⟩ := List.mem_map.1 q1
                    exact same_of (h2 p2.2 (List.mem_map.2 ⟨p2, hp2, rfl⟩)) j q2
                simp only [hs.rows, hs.fzs]
              · rfl
            · rfl
          · rfl
        · rfl
      · rfl
    · rfl
  case makeSlice t x y => simp only [stepT, h1 x (by simp [reads]), h1 y (by simp [reads])]
  case slice t x lo hi mx =>
    have e := h1 x (by simp [reads])
    have q := same_of (h2 x (by simp [reads]))
    have el : bnd? tm lo = bnd? tm' lo := by
      cases lo with
      | none => rfl
      | some l => simp only [bnd?, h1 l (by simp [reads])]
    have eh : bnd? tm hi = bnd? tm' hi := by
      cases hi with
      | none => rfl
      | some l => simp only [bnd?, h1 l (by simp [reads])]
    simp only [stepT, ← e, ← el, ← eh]
    split
    · split
      · rename_i e' c l h hk hx hl hh
        rw [hx] at q
        have q : SameAt hp hp' [c] := q
        simp only [q.rd, q.fzs]
      · rfl
      · rfl
    · rfl
  case call c =>
    have hs : ∀ x ∈ c.args.toList, SameAt hp hp' (cellsOf (opnd tm x)) := fun x hx => same_of (h2 x hx)
    simp only [stepT]
    split
    · rename_i g hg
      split
      · rename_i s hsx
        rw [args_congr (tm := tm) (tm' := tm') (os := c.args.toList) (fun x hx => h1 x hx) hs, argFz_congr (tm := tm) (tm' := tm') (os := c.args.toList) (fun x hx => h1 x hx) hs]
      · rfl
    · split
      · rename_i x t hx ht
        have hm : x ∈ c.args.toList := by simp [hx]
        have q := h2 x hm
        simp only [← h1 x hm]
        split
        · rfl
        · rfl
        · rename_i j i hv hi
          rw [hv] at q
          simp only [q j (by simp [idV, idC])]
        · rfl
        · rfl
      · rfl
    · split
      · rename_i x y hx
        rw [h1 x (by simp [reads, hx]), h1 y (by simp [reads, hx])]
      · rfl
    · split
      · rename_i x y hx
        rw [h1 x (by simp [reads, hx]), h1 y (by simp [reads, hx])]
      · rfl
    · split
      · rename_i x y t t2 q hx ht
        have hmx : x ∈ c.args.toList := by simp [hx]
        have hmy : y ∈ c.args.toList := by simp [hx]
        have qx := hs x hmx
        have qy := hs y hmy
        simp only [← h1 x hmx, ← h1 y hmy]
        split
        · split
          · split
            · split
              · split
                · split
                  · split
                    · rename_i cx cy hvx hvy
                      rw [hvx] at qx
                      rw [hvy] at qy
                      have qx : SameAt hp hp' [cx] := qx
                      have qy : SameAt hp hp' [cy] := qy
                      simp only [qx.grow, qy.rd]
                    · rfl
                  · rfl
                · rfl
              · rfl
            · rfl
          · rfl
        · rfl
      · rfl
    · rfl
  all_goals rfl
end
section
variable {α : Type} (n : Nat) (v : Nat → Option α) (b : α)
def lw (D : Nat → Bool) : Nat → α
  | 0 => b
  | m + 1 => match D m, v m with
    | true, some x => x
    | _, _ => lw D m
theorem lw_congr {D D' : Nat → Bool} : ∀ {n : Nat}, (∀ m, m < n → v m ≠ none → D m = D' m) → lw v b D n = lw v b D' n
  | 0, _ => rfl
  | m + 1, h => by
    have ih : lw v b D m = lw v b D' m := lw_congr fun j hj => h j (by omega)
    unfold lw
    cases hv : v m with
    | none => cases D m <;> cases D' m <;> exact ih
    | some x => rw [h m (by omega) (by simp [hv]), ih]
theorem lw_skip {D : Nat → Bool} : ∀ {n i : Nat}, i ≤ n → (∀ m, i ≤ m → m < n → v m ≠ none → D m = false) → lw v b D n = lw v b D i
  | 0, i, hi, _ => by rw [show i = 0 by omega]
  | n + 1, i, hi, h => by
    rcases Nat.lt_or_ge i (n + 1) with hlt | hge
    · have ih := lw_skip (n := n) (i := i) (by omega) (fun m h1 h2 => h m h1 (by omega))
      rw [← ih]
      show (match D n, v n with
        | true, some x => x
        | _, _ => lw v b D n) = lw v b D n
      cases hv : v n with
      | none => cases D n <;> rfl
      | some x => rw [h n (by omega) (by omega) (by simp [hv])]
    · rw [show i = n + 1 by omega]
theorem lw_at {D : Nat → Bool} {i : Nat} (hi : i < n) (hD : D i = false) (h : ∀ j, j < n → j ≠ i → v j ≠ none → (D j = decide (j < i))) : lw v b D n = lw v b (fun j => decide (j < i)) i := by
  rw [lw_skip (i := i) v b (by omega) (fun m h1 h2 h3 => by
    by_cases hm : m = i
    · rw [hm]; exact hD
    · rw [h m h2 hm h3]; exact decide_eq_false (by omega))]
  exact lw_congr v b fun m hm hv => h m (by omega) (by omega) hv
theorem lw_done {D : Nat → Bool} {i : Nat} {x : α} (hi : i < n) (hv : v i = some x) (hD : D i = true) (h : ∀ j, j < n → i < j → v j ≠ none → D j = false) : lw v b D n = x := by
  rw [lw_skip (i := i + 1) v b (by omega) (fun m h1 h2 h3 => h m h2 (by omega) h3)]
  simp only [lw, hD, hv]
theorem lw_other {D : Nat → Bool} {i : Nat} (hv : v i = none) : lw v b (fun j => if j = i then true else D j) n = lw v b D n :=
  lw_congr v b fun m _ hm => by
    have : m ≠ i := fun q => hm (q ▸ hv)
    simp [this]
end
end Go.Proofs.YtldcgclbgbhffaaW.Abs

end
section
namespace Go.Proofs.YtldcgclbgbhffaaW.Abs
open Go.RowKit Go.Proofs.YtldcgclbgbhffaaW.PrintWords Go.Proofs.YtldcgclbgbhffaaW.PrintLast Go.Proofs.YtldcgclbgbhffaaW.PrintMore
set_option linter.unusedVariables false
set_option linter.unusedSectionVars false
set_option linter.unusedSimpArgs false

def tmpsOf (ops : Array Oper) (o : Oper) : List Tmp :=
  (reads o.op).filterMap (fun | .tmp t => some t | _ => none) ++ o.dst.toList ++ (match o.guard with
    | some (j, _) => ((ops[j]?).bind (·.dst)).toList
    | none => [])
def needs (ops : Array Oper) (i : Nat) : List Nat := match ops[i]? with
  | some o => needsOf .any o
  | none => []
def waitsB (ops : Array Oper) (B : List Nat) : Bool := (List.range ops.size).all fun d => (decide (B.getD d 0 < 2 ^ d) && (needs ops d).all (fun q => decide (q < d))) && (List.range d).all fun i => !(B.getD d 0).testBit i || (needs ops d).any fun q => q == i || (decide (q < d) && (B.getD q 0).testBit i)
def ordB (B : List Nat) (i j : Nat) : Bool := if j < i then (B.getD i 0).testBit j else (B.getD j 0).testBit i
def namesB (ops : Array Oper) (B : List Nat) : Bool := (List.range ops.size).all fun i => match ops[i]? with
  | some o => (List.range ops.size).all fun j => j == i || ordB B i j || (match (ops[j]?).bind (·.dst) with
    | some t => !(tmpsOf ops o).contains t
    | none => true)
  | none => true
def regB (ops : Array Oper) (B : List Nat) : Bool := waitsB ops B && namesB ops B
def wrs (d : Option Tmp) (δ : HC) : List Nat := (match δ.nw with
  | some _ => d.toList
  | none => []) ++ δ.ch.map (·.1)
def chB : List (Nat × AB) → Nat → Option AB
  | [], _ => none
  | (j, b) :: l, q => if j = q then some b else chB l q
def wrB (d : Option Tmp) (q : Nat) (δ : HC) : Option AB := match δ.nw, d with
  | some b, some t => if t = q then some b else chB δ.ch q
  | _, _ => chB δ.ch q
def fts (tm : List AV) (o : Oper) (δ : HC) : List Nat := (reads o.op).flatMap (fun x => idV (opnd tm x)) ++ wrs o.dst δ
def allI {A : Type} (f : A → Nat → Bool) : Nat → List A → Bool
  | _, [] => true
  | j, a :: l => f a j && allI f (j + 1) l
theorem allI_from {A : Type} (f : A → Nat → Bool) : ∀ (l : List A) (j : Nat), allI f j l = (l.zipIdx j).all fun p => f p.1 p.2
  | [], _ => rfl
  | a :: l, j => by simp only [allI, List.zipIdx_cons, List.all_cons, allI_from f l (j + 1)]
theorem allI_eq {A : Type} (f : A → Nat → Bool) (l : List A) : allI f 0 l = l.zipIdx.all fun p => f p.1 p.2 := allI_from f l 0
section
variable {R : Type}
noncomputable def denAny (Θ : Tab) (S : FuncId → Option FSpec) (k : Nat) (ops : Array Oper) (B : List Nat) (l : List Oper) : Nat → List (List Nat × List Nat) → List AV → List AB → (List AV → List AB → Tree R) → Tree R :=
  List.rec (motive := fun _ => Nat → List (List Nat × List Nat) → List AV → List AB → (List AV → List AB → Tree R) → Tree R) (fun _ _ tm hp K => K tm hp) (fun o _ ih i rec tm hp K =>
    let go := stepT Θ S k tm hp o.dst o.op fun x δ => fNs (fts tm o δ) fun fa => fNs (wrs o.dst δ) fun wa => if (hok o.dst hp δ && (allI (fun p j => (B.getD i 0).testBit j || (p.2.all (fun q => !fa.contains q) && wa.all (fun q => !p.1.contains q))) 0 rec)) = true then fSnoc rec (fa, wa) fun rec' => putF tm o.dst x fun tm' => happF o.dst hp δ fun hp' => ih (i + 1) rec' tm' hp' K else .non
    match o.guard with
    | none => go
    | some (j, want) => match (ops[j]?).bind (·.dst) with
      | some t => match opnd tm (.tmp t) with
        | .val [.ro .bool b] => Tree.tst ((b : Bool) = want) go (fSnoc rec ([], []) fun rec' => putF tm o.dst .un fun tm' => ih (i + 1) rec' tm' hp K)
        | .un => fSnoc rec ([], []) fun rec' => putF tm o.dst .un fun tm' => ih (i + 1) rec' tm' hp K
        | _ => .non
      | none => .non) l
theorem denAny_cons (Θ : Tab) (S : FuncId → Option FSpec) (k : Nat) (ops : Array Oper) (B : List Nat) (o : Oper) (rest : List Oper) (i : Nat) (rec : List (List Nat × List Nat)) (tm : List AV) (hp : List AB) (K : List AV → List AB → Tree R) : denAny Θ S k ops B (o :: rest) i rec tm hp K = (
    let go := stepT Θ S k tm hp o.dst o.op fun x δ => fNs (fts tm o δ) fun fa => fNs (wrs o.dst δ) fun wa => if (hok o.dst hp δ && (allI (fun p j => (B.getD i 0).testBit j || (p.2.all (fun q => !fa.contains q) && wa.all (fun q => !p.1.contains q))) 0 rec)) = true then fSnoc rec (fa, wa) fun rec' => putF tm o.dst x fun tm' => happF o.dst hp δ fun hp' => denAny Θ S k ops B rest (i + 1) rec' tm' hp' K else .non
    match o.guard with
    | none => go
    | some (j, want) => match (ops[j]?).bind (·.dst) with
      | some t => match opnd tm (.tmp t) with
        | .val [.ro .bool b] => Tree.tst ((b : Bool) = want) go (fSnoc rec ([], []) fun rec' => putF tm o.dst .un fun tm' => denAny Θ S k ops B rest (i + 1) rec' tm' hp K)
        | .un => fSnoc rec ([], []) fun rec' => putF tm o.dst .un fun tm' => denAny Θ S k ops B rest (i + 1) rec' tm' hp K
        | _ => .non
      | none => .non) := rfl
end
structure Out where
  x : AV
  δ : HC
  ft : List Nat
def Comes1 (Θ : Tab) (S : FuncId → Option FSpec) (k : Nat) (ops : Array Oper) (tm : List AV) (hp : List AB) (o : Oper) (u : Out) : Prop :=
  (step Θ S k tm hp o.dst o.op = some (u.x, u.δ) ∧ hok o.dst hp u.δ = true ∧ u.ft = fts tm o u.δ ∧ (o.guard = none ∨ ∃ j want t b, o.guard = some (j, want) ∧ (ops[j]?).bind (·.dst) = some t ∧ opnd tm (.tmp t) = .val [.ro .bool b] ∧ (b : Bool) = want)) ∨
  (u.x = .un ∧ u.δ = H0 ∧ u.ft = [] ∧ ∃ j want t, o.guard = some (j, want) ∧ (ops[j]?).bind (·.dst) = some t ∧ notW want (opnd tm (.tmp t)))
section
variable (ops : Array Oper) (us : Nat → Out) (tm0 : List AV) (hp0 : List AB)
def dstOf (m : Nat) : Option Tmp := (ops[m]?).bind (·.dst)
def wt (t : Nat) (m : Nat) : Option AV := if dstOf ops m = some t then some (us m).x else none
def wh (q : Nat) (m : Nat) : Option AB := wrB (dstOf ops m) q (us m).δ
def tmD (D : Nat → Bool) (n : Nat) : List AV := (List.range tm0.length).map fun t => lw (wt ops us t) (tm0.getD t .junk) D n
def hpD (D : Nat → Bool) (n : Nat) : List AB := (List.range hp0.length).map fun q => lw (wh ops us q) (hp0.getD q .gone) D n
end
section
variable {ops : Array Oper} {us : Nat → Out} {tm0 : List AV} {hp0 : List AB}
theorem tmD_get {D : Nat → Bool} {n t : Nat} : (tmD ops us tm0 D n)[t]? = if t < tm0.length then some (lw (wt ops us t) (tm0.getD t .junk) D n) else none := by
  unfold tmD
  rw [List.getElem?_map]
  by_cases h : t < tm0.length
  · rw [List.getElem?_range h, if_pos h]; rfl
  · rw [List.getElem?_eq_none (by simpa using h), if_neg h]; rfl
theorem hpD_get {D : Nat → Bool} {n t : Nat} : (hpD ops us hp0 D n)[t]? = if t < hp0.length then some (lw (wh ops us t) (hp0.getD t .gone) D n) else none := by
  unfold hpD
  rw [List.getElem?_map]
  by_cases h : t < hp0.length
  · rw [List.getElem?_range h, if_pos h]; rfl
  · rw [List.getElem?_eq_none (by simpa using h), if_neg h]; rfl
theorem tmD_zero {D : Nat → Bool} : tmD ops us tm0 D 0 = tm0 := by
  apply List.ext_getElem?
  intro t
  rw [tmD_get]
  by_cases h : t < tm0.length
  · rw [if_pos h]; simp [lw, h]
  · rw [if_neg h, List.getElem?_eq_none (by omega)]
theorem hpD_zero {D : Nat → Bool} : hpD ops us hp0 D 0 = hp0 := by
  apply List.ext_getElem?
  intro t
  rw [hpD_get]
  by_cases h : t < hp0.length
  · rw [if_pos h]; simp [lw, h]
  · rw [if_neg h, List.getElem?_eq_none (by omega)]
theorem len_tmD {D : Nat → Bool} {n : Nat} : (tmD ops us tm0 D n).length = tm0.length := by simp [tmD]
theorem len_hpD {D : Nat → Bool} {n : Nat} : (hpD ops us hp0 D n).length = hp0.length := by simp [hpD]
theorem len_putT {tm : List AV} {d : Option Tmp} {x : AV} : (putT tm d x).length = tm.length := by unfold putT; split <;> simp
theorem len_chs {hp : List AB} : ∀ {l : List (Nat × AB)}, (chs l hp).length = hp.length
  | [] => rfl
  | _ :: l => by simp [chs, len_chs (l := l)]
theorem len_happ {hp : List AB} {d : Option Tmp} {δ : HC} : (happ d hp δ).length = hp.length := by unfold happ; split <;> simp [len_chs]
theorem chs_at {hp : List AB} {t : Nat} (ht : t < hp.length) : ∀ (l : List (Nat × AB)), (chs l hp)[t]? = some (match chB l t with
    | some x => x
    | none => hp.getD t .gone)
  | [] => by simp [chs, chB, ht]
  | (j, b) :: l => by
    by_cases h : j = t
    · subst h; simp [chs, chB, len_chs, ht]
    · simp only [chs, chB, if_neg h, List.getElem?_set_ne h]; exact chs_at ht l
theorem happ_at {hp : List AB} {t : Nat} (ht : t < hp.length) (d : Option Tmp) (δ : HC) : (happ d hp δ)[t]? = some (match wrB d t δ with
    | some x => x
    | none => hp.getD t .gone) := by
  unfold happ wrB
  cases δ.nw with
  | none => exact chs_at ht _
  | some b =>
    cases d with
    | none => exact chs_at ht _
    | some q =>
      by_cases h : q = t
      · subst h; simp [len_chs, ht]
      · simp only [if_neg h, List.getElem?_set_ne h]; exact chs_at ht _

theorem tm_put {A : List AV} {tm : List AV} {i : Nat} (hl : tm.length = tm0.length) (hA : A.length = tm0.length) (h : ∀ t, t < tm0.length → A[t]? = some (match wt ops us t i with
    | some x => x
    | none => tm.getD t .junk)) : A = putT tm (dstOf ops i) (us i).x := by
  apply List.ext_getElem?
  intro t
  by_cases ht : t < tm0.length
  · rw [h t ht]
    unfold wt putT
    cases hd : dstOf ops i with
    | none => simp [hl, ht]
    | some d =>
      by_cases hdt : d = t
      · subst hdt; simp [hl, ht]
      · have : ¬ (some d = some t) := fun q => hdt (Option.some.inj q)
        simp [this, hl, ht]
        rw [List.getElem_set_ne hdt]
  · rw [List.getElem?_eq_none (by omega), List.getElem?_eq_none (by rw [len_putT]; omega)]
theorem hp_put {A : List AB} {hp : List AB} {i : Nat} (hl : hp.length = hp0.length) (hA : A.length = hp0.length) (h : ∀ t, t < hp0.length → A[t]? = some (match wh ops us t i with
    | some x => x
    | none => hp.getD t .gone)) : A = happ (dstOf ops i) hp (us i).δ := by
  apply List.ext_getElem?
  intro t
  by_cases ht : t < hp0.length
  · rw [h t ht, happ_at (by omega)]
    rfl
  · rw [List.getElem?_eq_none (by omega), List.getElem?_eq_none (by rw [len_happ]; omega)]
def lt_ (i : Nat) (j : Nat) : Bool := decide (j < i)
theorem lw_succ {α : Type} {v : Nat → Option α} {b : α} {i : Nat} : lw v b (lt_ (i + 1)) (i + 1) = match v i with
    | some x => x
    | none => lw v b (lt_ i) i := by
  have : lw v b (lt_ (i + 1)) i = lw v b (lt_ i) i := lw_congr v b fun m hm _ => by unfold lt_; rw [decide_eq_true (by omega), decide_eq_true hm]
  show (match lt_ (i + 1) i, v i with
    | true, some x => x
    | _, _ => lw v b (lt_ (i + 1)) i) = _
  rw [this, show lt_ (i + 1) i = true from decide_eq_true (by omega)]
  cases v i <;> rfl
theorem tm_succ {i : Nat} : tmD ops us tm0 (lt_ (i + 1)) (i + 1) = putT (tmD ops us tm0 (lt_ i) i) (dstOf ops i) (us i).x := by
  refine tm_put len_tmD len_tmD fun t ht => ?_
  rw [tmD_get, if_pos ht, lw_succ]
  cases wt ops us t i with
  | some x => rfl
  | none => simp [List.getD_eq_getElem?_getD, tmD_get, ht]
theorem hp_succ {i : Nat} : hpD ops us hp0 (lt_ (i + 1)) (i + 1) = happ (dstOf ops i) (hpD ops us hp0 (lt_ i) i) (us i).δ := by
  refine hp_put len_hpD len_hpD fun t ht => ?_
  rw [hpD_get, if_pos ht, lw_succ]
  cases wh ops us t i with
  | some x => rfl
  | none => simp [List.getD_eq_getElem?_getD, hpD_get, ht]
end
end Go.Proofs.YtldcgclbgbhffaaW.Abs

end
section
namespace Go.Proofs.YtldcgclbgbhffaaW.Abs
open Go.RowKit Go.Proofs.YtldcgclbgbhffaaW.PrintWords Go.Proofs.YtldcgclbgbhffaaW.PrintLast Go.Proofs.YtldcgclbgbhffaaW.PrintMore
set_option linter.unusedVariables false
set_option linter.unusedSectionVars false
set_option linter.unusedSimpArgs false

section
variable {P : Program} {Θ : Tab} {S : FuncId → Option FSpec} {k : Nat} {U0 : Nat → Prop} {ν : Nat → Value} {w0 w : World} {a : Act} {R : Type} {r : R} {ops : Array Oper} {B : List Nat} {us : Nat → Out} {tm0 : List AV} {hp0 : List AB}
def Closed (ops : Array Oper) (D : Nat → Bool) : Prop := ∀ i, i < ops.size → D i = true → ∀ q ∈ needs ops i, D q = true
theorem waits_spec (h : waitsB ops B = true) {d : Nat} (hd : d < ops.size) : B.getD d 0 < 2 ^ d ∧ (∀ q ∈ needs ops d, q < d) ∧ ∀ i, i < d → (B.getD d 0).testBit i = true → ∃ q ∈ needs ops d, q = i ∨ (q < d ∧ (B.getD q 0).testBit i = true) := by
  unfold waitsB at h
  have := List.all_eq_true.1 h d (List.mem_range.2 hd)
  simp only [Bool.and_eq_true, List.all_eq_true, decide_eq_true_eq, List.mem_range] at this
  refine ⟨this.1.1, this.1.2, fun i hi hb => ?_⟩
  have h2 := this.2 i hi
  rw [hb] at h2
  simp only [Bool.not_true, Bool.false_or, List.any_eq_true, Bool.or_eq_true, beq_iff_eq, Bool.and_eq_true, decide_eq_true_eq] at h2
  exact h2
theorem bit_lt (h : waitsB ops B = true) {d : Nat} (hd : d < ops.size) {i : Nat} (hb : (B.getD d 0).testBit i = true) : i < d := by
  rcases Nat.lt_or_ge i d with q | q
  · exact q
  · have := Nat.testBit_lt_two_pow (Nat.lt_of_lt_of_le (waits_spec h hd).1 (Nat.pow_le_pow_right (by omega) q))
    rw [this] at hb
    cases hb
theorem bit_done (hB : waitsB ops B = true) {D : Nat → Bool} (hc : Closed ops D) : ∀ (d : Nat), d < ops.size → (∀ q ∈ needs ops d, D q = true) → ∀ i, (B.getD d 0).testBit i = true → D i = true := by
  intro d
  induction d using Nat.strongRecOn with
  | _ d ih =>
    intro hd hn i hb
    obtain ⟨_, h1, h2⟩ := waits_spec hB hd
    obtain ⟨q, hq, hqi | ⟨hlt, hqb⟩⟩ := h2 i (bit_lt hB hd hb) hb
    · exact hqi ▸ hn q hq
    · have hqs : q < ops.size := Nat.lt_trans hlt hd
      exact ih q hlt hqs (hc q hqs (hn q hq)) i hqb
theorem ord_done (hB : waitsB ops B = true) {D : Nat → Bool} (hc : Closed ops D) {i j : Nat} (hi : i < ops.size) (hj : j < ops.size) (hn : ∀ q ∈ needs ops i, D q = true) (hD : D i = false) (hij : j ≠ i) (ho : ordB B i j = true) : D j = decide (j < i) := by
  unfold ordB at ho
  split at ho
  · rename_i hlt
    rw [decide_eq_true hlt]
    exact bit_done hB hc i hi hn j ho
  · rename_i hge
    rw [decide_eq_false hge]
    cases hq : D j with
    | false => rfl
    | true => rw [bit_done hB hc j hj (hc j hj hq) i ho] at hD; cases hD
theorem names_spec (h : namesB ops B = true) {i j : Nat} {o : Oper} (ho : ops[i]? = some o) (hj : j < ops.size) (hij : j ≠ i) {t : Tmp} (hd : dstOf ops j = some t) (ht : t ∈ tmpsOf ops o) : ordB B i j = true := by
  have hi : i < ops.size := (Array.getElem?_eq_some_iff.1 ho).1
  unfold namesB at h
  have h1 := List.all_eq_true.1 h i (List.mem_range.2 hi)
  rw [ho] at h1
  have h2 := List.all_eq_true.1 h1 j (List.mem_range.2 hj)
  have hd' : (ops[j]?).bind (·.dst) = some t := hd
  rw [hd'] at h2
  simp only [Bool.or_eq_true, beq_iff_eq, Bool.not_eq_true', List.contains_eq_mem, decide_eq_false_iff_not] at h2
  rcases h2 with (h2 | h2) | h2
  · exact absurd h2 hij
  · exact h2
  · exact absurd ht h2
structure Record (Θ : Tab) (S : FuncId → Option FSpec) (k : Nat) (ops : Array Oper) (B : List Nat) (us : Nat → Out) (tm0 : List AV) (hp0 : List AB) (n : Nat) : Prop where
  comes : ∀ i, i < n → ∀ o, ops[i]? = some o → Comes1 Θ S k ops (tmD ops us tm0 (lt_ i) i) (hpD ops us hp0 (lt_ i) i) o (us i)
  apart : ∀ i j, i < n → j < n → i ≠ j → ordB B i j = true ∨ ∀ q ∈ wrs (dstOf ops j) (us j).δ, q ∉ (us i).ft
theorem opnd_tmp {tm tm' : List AV} {x : Operand} (h : ∀ t, x = .tmp t → tm[t]? = tm'[t]?) : opnd tm x = opnd tm' x := by
  cases x with
  | tmp t =>
    show tm.getD t .junk = tm'.getD t .junk
    rw [List.getD_eq_getElem?_getD, List.getD_eq_getElem?_getD, h t rfl]
  | _ => rfl
theorem reads_mem {o : Oper} {t : Tmp} (h : Operand.tmp t ∈ reads o.op) : t ∈ tmpsOf ops o := by
  unfold tmpsOf
  refine List.mem_append_left _ (List.mem_append_left _ ?_)
  exact List.mem_filterMap.2 ⟨_, h, rfl⟩
theorem dst_mem {o : Oper} {t : Tmp} (h : o.dst = some t) : t ∈ tmpsOf ops o := by
  unfold tmpsOf
  refine List.mem_append_left _ (List.mem_append_right _ ?_)
  simp [h]
theorem guard_mem {o : Oper} {j : Nat} {want : Bool} {t : Tmp} (hg : o.guard = some (j, want)) (h : (ops[j]?).bind (·.dst) = some t) : t ∈ tmpsOf ops o := by
  unfold tmpsOf
  refine List.mem_append_right _ ?_
  rw [hg]
  simp [h]
theorem chB_mem {q : Nat} : ∀ {l : List (Nat × AB)}, chB l q ≠ none → q ∈ l.map (·.1)
  | [], h => absurd rfl h
  | (j, b) :: l, h => by
    unfold chB at h
    split at h
    · rename_i e; subst e; simp
    · exact List.mem_cons_of_mem _ (chB_mem h)
theorem wrB_mem {d : Option Tmp} {q : Nat} {δ : HC} (h : wrB d q δ ≠ none) : q ∈ wrs d δ := by
  unfold wrB at h
  unfold wrs
  split at h
  · rename_i b t hn
    split at h
    · rename_i e; subst e; rw [hn]; simp
    · exact List.mem_append_right _ (chB_mem h)
  · exact List.mem_append_right _ (chB_mem h)
theorem hok_congr {d : Option Tmp} {hp hp' : List AB} {δ : HC} (h : ∀ q ∈ wrs d δ, hp[q]? = hp'[q]?) : hok d hp δ = hok d hp' δ := by
  have h2 : (δ.ch.all fun p => liveB hp p.1 && !isGone p.2) = δ.ch.all fun p => liveB hp' p.1 && !isGone p.2 := by
    rw [Bool.eq_iff_iff, List.all_eq_true, List.all_eq_true]
    refine forall_congr' fun p => forall_congr' fun hp' => ?_
    unfold liveB
    rw [h p.1 (List.mem_append_right _ (List.mem_map.2 ⟨p, hp', rfl⟩))]
  unfold hok
  rw [h2]
  split
  · rename_i b t hn
    rw [h t (by unfold wrs; rw [hn]; simp)]
  · rfl
  · rfl
def also (D : Nat → Bool) (i : Nat) (j : Nat) : Bool := if j = i then true else D j
section
variable (hB : waitsB ops B = true) (hN : namesB ops B = true) (rec : Record Θ S k ops B us tm0 hp0 ops.size) {D : Nat → Bool} (hc : Closed ops D) {i : Nat} (hi : i < ops.size) (hn : ∀ q ∈ needs ops i, D q = true) (hD : D i = false) {o : Oper} (ho : ops[i]? = some o)
include hB hN rec hc hi hn hD ho
theorem tm_same {t : Tmp} (ht : t ∈ tmpsOf ops o) : (tmD ops us tm0 D ops.size)[t]? = (tmD ops us tm0 (lt_ i) i)[t]? := by
  rw [tmD_get, tmD_get]
  rw [lw_at ops.size (wt ops us t) (tm0.getD t .junk) hi hD fun j hj hij hw => ord_done hB hc hi hj hn hD hij (names_spec hN ho hj hij (t := t) (by
    unfold wt at hw
    split at hw
    · rename_i e; exact e
    · exact absurd rfl hw) ht)]
  rfl
theorem hp_same {q : Nat} (hq : q ∈ (us i).ft) : (hpD ops us hp0 D ops.size)[q]? = (hpD ops us hp0 (lt_ i) i)[q]? := by
  rw [hpD_get, hpD_get]
  rw [lw_at ops.size (wh ops us q) (hp0.getD q .gone) hi hD fun j hj hij hw => ord_done hB hc hi hj hn hD hij ((rec.apart i j hi hj (Ne.symm hij)).resolve_right fun h => h q (wrB_mem hw) hq)]
  rfl
theorem wrs_ft (q : Nat) (hq : q ∈ wrs o.dst (us i).δ) : q ∈ (us i).ft := by
  rcases rec.comes i hi o ho with ⟨_, _, h, _⟩ | ⟨_, h, _⟩
  · rw [h]; exact List.mem_append_right _ hq
  · rw [h] at hq; simp [wrs] at hq
theorem dst_of : dstOf ops i = o.dst := by unfold dstOf; rw [ho]; rfl
theorem tm_also : tmD ops us tm0 (also D i) ops.size = putT (tmD ops us tm0 D ops.size) o.dst (us i).x := by
  have hd := dst_of hB hN rec hc hi hn hD ho
  rw [← hd]
  refine tm_put len_tmD len_tmD fun t ht => ?_
  rw [tmD_get, if_pos ht]
  cases hw : wt ops us t i with
  | none =>
    rw [show also D i = (fun j => if j = i then true else D j) from rfl, lw_other ops.size (wt ops us t) _ hw]
    simp [List.getD_eq_getElem?_getD, tmD_get, ht]
  | some x =>
    have hdt : dstOf ops i = some t := by
      unfold wt at hw
      split at hw
      · rename_i e; exact e
      · cases hw
    rw [lw_done ops.size (wt ops us t) _ hi hw (by simp [also]) fun j hj hij hw2 => ?_]
    have hj2 : dstOf ops j = some t := by
      unfold wt at hw2
      split at hw2
      · rename_i e; exact e
      · exact absurd rfl hw2
    have := ord_done hB hc hi hj hn hD (show j ≠ i by omega) (names_spec hN ho hj (by omega) hj2 (dst_mem (by rw [← hd]; exact hdt)))
    unfold also
    rw [if_neg (by omega), this, decide_eq_false (by omega)]
theorem hp_also : hpD ops us hp0 (also D i) ops.size = happ o.dst (hpD ops us hp0 D ops.size) (us i).δ := by
  have hd := dst_of hB hN rec hc hi hn hD ho
  rw [← hd]
  refine hp_put len_hpD len_hpD fun t ht => ?_
  rw [hpD_get, if_pos ht]
  cases hw : wh ops us t i with
  | none =>
    rw [show also D i = (fun j => if j = i then true else D j) from rfl, lw_other ops.size (wh ops us t) _ hw]
    simp [List.getD_eq_getElem?_getD, hpD_get, ht]
  | some x =>
    have hq : t ∈ (us i).ft := wrs_ft hB hN rec hc hi hn hD ho t (by rw [← hd]; exact wrB_mem (by rw [show wrB _ _ _ = some x from hw]; simp))
    rw [lw_done ops.size (wh ops us t) _ hi hw (by simp [also]) fun j hj hij hw2 => ?_]
    have := ord_done hB hc hi hj hn hD (show j ≠ i by omega) ((rec.apart i j hi hj (by omega)).resolve_right fun h => h t (wrB_mem hw2) hq)
    unfold also
    rw [if_neg (by omega), this, decide_eq_false (by omega)]
theorem comes_any : Comes1 Θ S k ops (tmD ops us tm0 D ops.size) (hpD ops us hp0 D ops.size) o (us i) := by
  have hop : ∀ x ∈ reads o.op, opnd (tmD ops us tm0 (lt_ i) i) x = opnd (tmD ops us tm0 D ops.size) x := fun x hx => opnd_tmp fun t ht => (tm_same hB hN rec hc hi hn hD ho (reads_mem (ht ▸ hx))).symm
  rcases rec.comes i hi o ho with ⟨h1, h2, h3, h4⟩ | ⟨h1, h2, h3, j, want, t, g1, g2, g3⟩
  · have hh : ∀ q ∈ (us i).ft, (hpD ops us hp0 (lt_ i) i)[q]? = (hpD ops us hp0 D ops.size)[q]? := fun q hq => (hp_same hB hN rec hc hi hn hD ho hq).symm
    refine .inl ⟨?_, ?_, ?_, ?_⟩
    · rw [← h1]
      refine congrArg Tree.run (step_congr _ _ _ hop fun x hx q hq => hh q ?_).symm
      rw [h3]
      exact List.mem_append_left _ (List.mem_flatMap.2 ⟨x, hx, hq⟩)
    · rw [← h2]
      exact (hok_congr fun q hq => hh q (wrs_ft hB hN rec hc hi hn hD ho q hq)).symm
    · rw [h3]
      unfold fts
      congr 1
      rw [List.flatMap_def, List.flatMap_def]
      congr 1
      exact List.map_congr_left fun x hx => by rw [hop x hx]
    · refine h4.imp id fun ⟨j, want, t, b, g1, g2, g3, g4⟩ => ⟨j, want, t, b, g1, g2, ?_, g4⟩
      rw [← g3]
      exact opnd_tmp fun t' ht' => by injection ht' with ht'; subst ht'; exact tm_same hB hN rec hc hi hn hD ho (guard_mem g1 g2)
  · refine .inr ⟨h1, h2, h3, j, want, t, g1, g2, ?_⟩
    refine Eq.mp (congrArg (notW want) (Eq.symm ?_)) g3
    exact opnd_tmp fun t' ht' => by injection ht' with ht'; subst ht'; exact tm_same hB hN rec hc hi hn hD ho (guard_mem g1 g2)
end
end
end Go.Proofs.YtldcgclbgbhffaaW.Abs

end
section
namespace Go.Proofs.YtldcgclbgbhffaaW.Abs
open Go.RowKit Go.Proofs.YtldcgclbgbhffaaW.PrintWords Go.Proofs.YtldcgclbgbhffaaW.PrintLast Go.Proofs.YtldcgclbgbhffaaW.PrintMore
set_option linter.unusedVariables false
set_option linter.unusedSectionVars false
set_option linter.unusedSimpArgs false

section
variable {P : Program} {Θ : Tab} {S : FuncId → Option FSpec} {k : Nat} {U0 : Nat → Prop} {w0 : World} {R : Type} {r : R} {ops : Array Oper} {B : List Nat} {us : Nat → Out} {tm0 : List AV} {hp0 : List AB}
def dn (listed : Array Bool) (j : Nat) : Bool := listed.getD j true
theorem ready_spec {listed : Array Bool} (hl : listed.size = ops.size) {i : Nat} : i ∈ Region.ready .any ops listed ↔ i < ops.size ∧ dn listed i = false ∧ ∀ q ∈ needs ops i, listed.getD q false = true := by
  unfold Region.ready
  simp only [List.mem_filter, List.mem_range, Bool.and_eq_true, Bool.not_eq_true']
  unfold dn needs
  refine and_congr_right fun hi => and_congr_right fun _ => ?_
  rw [Array.getElem?_eq_getElem hi]
  simp only [Option.map_some, Option.getD_some]
  refine Iff.trans (iff_of_eq (congrArg (· = true) (needs_all (md := .any) ops[i] (fun q => listed.getD q false)))) ?_
  rw [List.all_eq_true]
theorem dn_false {listed : Array Bool} (hl : listed.size = ops.size) {q : Nat} (hq : q < ops.size) : listed.getD q false = dn listed q := by
  unfold dn
  simp [Array.getD_eq_getD_getElem?, show q < listed.size by omega]
theorem dn_set {listed : Array Bool} (hl : listed.size = ops.size) {i : Nat} (hi : i < ops.size) : dn (listed.setIfInBounds i true) = also (dn listed) i := by
  funext j
  unfold dn also
  by_cases h : j = i
  · subst h
    simp [Array.getD_eq_getD_getElem?, show j < listed.size by omega]
  · rw [if_neg h]
    simp [Array.getD_eq_getD_getElem?, Array.getElem?_setIfInBounds, Ne.symm h]
def left (D : Nat → Bool) (n : Nat) : Nat := (List.range n).countP fun j => !D j
theorem left_also {D : Nat → Bool} : ∀ {n i : Nat}, i < n → D i = false → left (also D i) n + 1 = left D n
  | 0, i, hi, _ => by omega
  | n + 1, i, hi, hD => by
    unfold left
    rw [List.range_succ, List.countP_append, List.countP_append]
    by_cases h : i = n
    · subst h
      have : (List.range i).countP (fun j => !also D i j) = (List.range i).countP fun j => !D j := List.countP_congr fun j hj => by
        have : j ≠ i := by have := List.mem_range.1 hj; omega
        simp [also, this]
      rw [this]
      simp [also, hD]
    · have ih := left_also (D := D) (n := n) (i := i) (by omega) hD
      unfold left at ih
      have : also D i n = D n := by unfold also; rw [if_neg (Ne.symm h)]
      simp only [List.countP_singleton, this]
      omega
theorem left_zero {D : Nat → Bool} {n : Nat} (h : left D n = 0) {j : Nat} (hj : j < n) : D j = true := by
  unfold left at h
  rw [List.countP_eq_zero] at h
  simpa using h j (List.mem_range.2 hj)
theorem all_done (hB : waitsB ops B = true) {listed : Array Bool} (hl : listed.size = ops.size) (hr : Region.ready .any ops listed = []) : ∀ j, j < ops.size → dn listed j = true := by
  intro j
  induction j using Nat.strongRecOn with
  | _ j ih =>
    intro hj
    cases hD : dn listed j with
    | true => rfl
    | false =>
      have : j ∈ Region.ready .any ops listed := (ready_spec hl).2 ⟨hj, hD, fun q hq => by
        have hlt := (waits_spec hB hj).2.1 q hq
        rw [dn_false hl (by omega)]
        exact ih q hlt (by omega)⟩
      rw [hr] at this
      cases this
theorem any_ok {Q : Exit → Act → World → Prop} (hΘ : Θ.ok P = true) (hS : SpecsOk P S k) (hB : waitsB ops B = true) (hN : namesB ops B = true) (hst : ∀ o ∈ ops.toList, ∀ t x y, o.op = .store t x y → o.dst = none) (rec : Record Θ S k ops B us tm0 hp0 ops.size) (hU0 : ∀ q, U0 q → q < w0.heap.size)
    (hQ : ∀ ν' a' w', Inv U0 ν' (tmD ops us tm0 (lt_ ops.size) ops.size) (hpD ops us hp0 (lt_ ops.size) ops.size) w0 a' w' → Q .normal a' w') :
    ∀ (fuel : Nat) (listed : Array Bool) (ν : Nat → Value) (a : Act) (w : World), listed.size = ops.size → Closed ops (dn listed) → left (dn listed) ops.size ≤ fuel → Inv U0 ν (tmD ops us tm0 (dn listed) ops.size) (hpD ops us hp0 (dn listed) ops.size) w0 a w → wpAny P .any ops Q fuel listed a w := by
  have fin : ∀ {listed : Array Bool} {ν : Nat → Value} {a : Act} {w : World}, (∀ j, j < ops.size → dn listed j = true) → Inv U0 ν (tmD ops us tm0 (dn listed) ops.size) (hpD ops us hp0 (dn listed) ops.size) w0 a w → Q .normal a w := by
    intro listed ν a w hall I
    have e1 : tmD ops us tm0 (dn listed) ops.size = tmD ops us tm0 (lt_ ops.size) ops.size := by
      unfold tmD
      refine List.map_congr_left fun t _ => lw_congr _ _ fun m hm _ => ?_
      rw [hall m hm]; exact (decide_eq_true hm).symm
    have e2 : hpD ops us hp0 (dn listed) ops.size = hpD ops us hp0 (lt_ ops.size) ops.size := by
      unfold hpD
      refine List.map_congr_left fun t _ => lw_congr _ _ fun m hm _ => ?_
      rw [hall m hm]; exact (decide_eq_true hm).symm
    rw [e1, e2] at I
    exact hQ ν a w I
  intro fuel
  induction fuel with
  | zero =>
    intro listed ν a w hl hc hf I
    have hall : ∀ j, j < ops.size → dn listed j = true := fun j hj => left_zero (by omega) hj
    refine ⟨?_, fin hall I⟩
    rw [List.eq_nil_iff_forall_not_mem]
    intro i hi
    obtain ⟨h1, h2, _⟩ := (ready_spec hl).1 hi
    rw [hall i h1] at h2
    cases h2
  | succ fuel ih =>
    intro listed ν a w hl hc hf I
    refine ⟨fun hr => fin (all_done hB hl hr) I, fun i hi => ?_⟩
    obtain ⟨hi, hD, hn'⟩ := (ready_spec hl).1 hi
    obtain ⟨o, ho⟩ : ∃ o, ops[i]? = some o := ⟨_, Array.getElem?_eq_getElem hi⟩
    have hn : ∀ q ∈ needs ops i, dn listed q = true := fun q hq => by
      have hlt := (waits_spec hB hi).2.1 q hq
      rw [← dn_false hl (by omega)]
      exact hn' q hq
    have hcom := comes_any hB hN rec hc hi hn hD ho
    have etm := tm_also hB hN rec hc hi hn hD ho
    have ehp := hp_also hB hN rec hc hi hn hD ho
    have hc' : Closed ops (dn (listed.setIfInBounds i true)) := by
      rw [dn_set hl hi]
      intro j hj hd q hq
      unfold also at hd ⊢
      by_cases hqi : q = i
      · rw [if_pos hqi]
      · rw [if_neg hqi]
        by_cases hji : j = i
        · subst hji; exact hn q hq
        · rw [if_neg hji] at hd; exact hc j hj hd q hq
    have next : ∀ (ν' : Nat → Value) (v : Value) (w' : World), Inv U0 ν' (putT (tmD ops us tm0 (dn listed) ops.size) o.dst (us i).x) (happ o.dst (hpD ops us hp0 (dn listed) ops.size) (us i).δ) w0 (a.put o.dst v) w' → wpAny P .any ops Q fuel (listed.setIfInBounds i true) (a.put o.dst v) w' := by
      intro ν' v w' I'
      refine ih _ ν' _ w' (by simp [hl]) hc' ?_ ?_
      · have := left_also hi hD
        rw [dn_set hl hi]
        omega
      · rw [dn_set hl hi, etm, ehp]
        exact I'
    unfold wpOp
    rw [ho]
    rcases hcom with ⟨h1, h2, h3, h4⟩ | ⟨h1, h2, h3, j, want, t, g1, g2, g3⟩
    · have hw : Region.wanted o (yielded ops a.tmps) = true := by
        rcases h4 with h4 | ⟨j, want, t, b, g1, g2, g3, g4⟩
        · simp [Region.wanted, h4]
        · simp [Region.wanted, g1, yield_bool I g2 g3, g4]
      simp only [hw, if_true]
      refine .inl ?_
      obtain ⟨x', δ', e, hg⟩ := step_ok (K := fun x δ => .done (x, δ)) hΘ hS I hU0 h1 (hst o (by
        have := (Array.getElem?_eq_some_iff.1 ho).2
        rw [← this]; simp))
      have e : some (x', δ') = some ((us i).x, (us i).δ) := e
      injection e with e
      injection e with e1 e2
      subst e1 e2
      exact hg h2 _ _ fun ν' v w' I' => next ν' v w' I'
    · have hw : ¬ Region.wanted o (yielded ops a.tmps) = true := not_wanted I g1 g2 g3
      simp only [hw, if_false]
      refine next ν undef w ?_
      rw [h1, h2]
      exact I.put_pure o.dst rfl
end
end Go.Proofs.YtldcgclbgbhffaaW.Abs

end
section
namespace Go.Proofs.YtldcgclbgbhffaaW.Abs
open Go.RowKit Go.Proofs.YtldcgclbgbhffaaW.PrintWords Go.Proofs.YtldcgclbgbhffaaW.PrintLast Go.Proofs.YtldcgclbgbhffaaW.PrintMore
set_option linter.unusedVariables false
set_option linter.unusedSectionVars false
set_option linter.unusedSimpArgs false

section
variable {P : Program} {Θ : Tab} {S : FuncId → Option FSpec} {k : Nat} {U0 : Nat → Prop} {w0 : World} {R : Type} {r : R} {ops : Array Oper} {B : List Nat} {us us' : Nat → Out} {tm0 : List AV} {hp0 : List AB}
theorem lw_vcongr {α : Type} {v v' : Nat → Option α} {b : α} {D : Nat → Bool} : ∀ {n : Nat}, (∀ m, m < n → v m = v' m) → lw v b D n = lw v' b D n
  | 0, _ => rfl
  | n + 1, h => by
    have ih : lw v b D n = lw v' b D n := lw_vcongr fun m hm => h m (by omega)
    show (match D n, v n with
      | true, some x => x
      | _, _ => lw v b D n) = (match D n, v' n with
      | true, some x => x
      | _, _ => lw v' b D n)
    rw [h n (by omega), ih]
theorem tmD_ext {i : Nat} (h : ∀ j, j < i → us j = us' j) {D : Nat → Bool} : tmD ops us tm0 D i = tmD ops us' tm0 D i := by
  unfold tmD
  exact List.map_congr_left fun t _ => lw_vcongr fun m hm => by unfold wt; rw [h m hm]
theorem hpD_ext {i : Nat} (h : ∀ j, j < i → us j = us' j) {D : Nat → Bool} : hpD ops us hp0 D i = hpD ops us' hp0 D i := by
  unfold hpD
  exact List.map_congr_left fun t _ => lw_vcongr fun m hm => by unfold wh; rw [h m hm]
structure Part (Θ : Tab) (S : FuncId → Option FSpec) (k : Nat) (ops : Array Oper) (B : List Nat) (us : Nat → Out) (tm0 : List AV) (hp0 : List AB) (i : Nat) (rec : List (List Nat × List Nat)) (tm : List AV) (hp : List AB) : Prop where
  rcd : rec = (List.range i).map fun j => ((us j).ft, wrs (dstOf ops j) (us j).δ)
  comes : ∀ j, j < i → ∀ o, ops[j]? = some o → Comes1 Θ S k ops (tmD ops us tm0 (lt_ j) j) (hpD ops us hp0 (lt_ j) j) o (us j)
  apart : ∀ a b, a < i → b < i → a ≠ b → ordB B a b = true ∨ ∀ q ∈ wrs (dstOf ops b) (us b).δ, q ∉ (us a).ft
  tm : tm = tmD ops us tm0 (lt_ i) i
  hp : hp = hpD ops us hp0 (lt_ i) i
def ext (us : Nat → Out) (i : Nat) (u : Out) (j : Nat) : Out := if j = i then u else us j
theorem Part.more {i : Nat} {rec : List (List Nat × List Nat)} {tm : List AV} {hp : List AB} (p : Part Θ S k ops B us tm0 hp0 i rec tm hp) {o : Oper} (ho : ops[i]? = some o) {u : Out} (hu : Comes1 Θ S k ops tm hp o u)
    (hap : ∀ x ∈ rec.zipIdx, (B.getD i 0).testBit x.2 = true ∨ ((∀ q ∈ x.1.2, q ∉ u.ft) ∧ ∀ q ∈ wrs o.dst u.δ, q ∉ x.1.1)) :
    Part Θ S k ops B (ext us i u) tm0 hp0 (i + 1) (rec ++ [(u.ft, wrs o.dst u.δ)]) (putT tm o.dst u.x) (happ o.dst hp u.δ) := by
  have hd : dstOf ops i = o.dst := by unfold dstOf; rw [ho]; rfl
  have same : ∀ j, j < i → us j = (ext us i u) j := fun j hj => by unfold ext; rw [if_neg (by omega)]
  have hat : ∀ j, j < i → (ext us i u) j = us j := fun j hj => (same j hj).symm
  have hself : (ext us i u) i = u := by unfold ext; rw [if_pos rfl]
  have hrec : ∀ j, j < i → (((us j).ft, wrs (dstOf ops j) (us j).δ), j) ∈ rec.zipIdx := fun j hj => by
    rw [p.rcd, List.mem_zipIdx_iff_getElem?]
    rw [List.getElem?_map, List.getElem?_range hj]
    rfl
  refine ⟨?_, fun j hj o' ho' => ?_, fun x y hx hy hxy => ?_, ?_, ?_⟩
  · rw [List.range_succ, List.map_append, p.rcd]
    congr 1
    · exact List.map_congr_left fun j hj => by rw [hat j (List.mem_range.1 hj)]
    · rw [List.map_singleton, hself, hd]
  · rcases Nat.lt_or_ge j i with hlt | hge
    · rw [← tmD_ext (fun q hq => same q (by omega)), ← hpD_ext (fun q hq => same q (by omega)), hat j hlt]
      exact p.comes j hlt o' ho'
    · obtain rfl : j = i := by omega
      rw [ho] at ho'
      injection ho' with ho'
      subst ho'
      rw [← tmD_ext same, ← hpD_ext same, hself, ← p.tm, ← p.hp]
      exact hu
  · rcases Nat.lt_or_ge x i with hx' | hx' <;> rcases Nat.lt_or_ge y i with hy' | hy'
    · rw [hat x hx', hat y hy']
      exact p.apart x y hx' hy' hxy
    · obtain rfl : y = i := by omega
      rw [hat x hx', hself, hd]
      rcases hap _ (hrec x hx') with h | h
      · left; unfold ordB; rw [if_neg (by omega)]; exact h
      · exact .inr h.2
    · obtain rfl : x = i := by omega
      rw [hat y hy', hself]
      rcases hap _ (hrec y hy') with h | h
      · left; unfold ordB; rw [if_pos hy']; exact h
      · exact .inr h.1
    · omega
  · rw [tm_succ, hself, hd, ← tmD_ext same, ← p.tm]
  · rw [hp_succ, hself, hd, ← hpD_ext same, ← p.hp]
theorem denAny_rec {K : List AV → List AB → Tree R} : ∀ (l : List Oper) (i : Nat) (us : Nat → Out) (rec : List (List Nat × List Nat)) (tm : List AV) (hp : List AB), ops.toList.drop i = l → Part Θ S k ops B us tm0 hp0 i rec tm hp → i + l.length = ops.size → (denAny Θ S k ops B l i rec tm hp K).run = some r →
    ∃ us', Record Θ S k ops B us' tm0 hp0 ops.size ∧ (K (tmD ops us' tm0 (lt_ ops.size) ops.size) (hpD ops us' hp0 (lt_ ops.size) ops.size)).run = some r
  | [], i, us, rec, tm, hp, hl, p, hs, h => by
    obtain rfl : i = ops.size := by simpa using hs
    refine ⟨us, ⟨p.comes, p.apart⟩, ?_⟩
    rw [← p.tm, ← p.hp]
    exact h
  | o :: rest, i, us, rec, tm, hp, hl, p, hs, h => by
    have hi : i < ops.size := by simp at hs; omega
    have ho : ops[i]? = some o := by
      have : ops.toList[i]? = some o := by
        have := congrArg (·[0]?) hl
        simpa [List.getElem?_drop] using this
      simpa using this
    have hl' : ops.toList.drop (i + 1) = rest := by
      rw [← List.drop_drop, hl]; rfl
    have hs' : i + 1 + rest.length = ops.size := by simp at hs; omega
    have go : (stepT Θ S k tm hp o.dst o.op fun x δ => if (hok o.dst hp δ && (rec.zipIdx.all fun p => (B.getD i 0).testBit p.2 || (p.1.2.all (fun q => !(fts tm o δ).contains q) && (wrs o.dst δ).all (fun q => !p.1.1.contains q)))) = true then denAny Θ S k ops B rest (i + 1) (rec ++ [(fts tm o δ, wrs o.dst δ)]) (putT tm o.dst x) (happ o.dst hp δ) K else .non).run = some r →
        (o.guard = none ∨ ∃ j want t b, o.guard = some (j, want) ∧ (ops[j]?).bind (·.dst) = some t ∧ opnd tm (.tmp t) = .val [.ro .bool b] ∧ (b : Bool) = want) →
        ∃ us', Record Θ S k ops B us' tm0 hp0 ops.size ∧ (K (tmD ops us' tm0 (lt_ ops.size) ops.size) (hpD ops us' hp0 (lt_ ops.size) ops.size)).run = some r := by
      intro h hg
      rw [stepT_bind] at h
      cases hst : step Θ S k tm hp o.dst o.op with
      | none => rw [hst] at h; cases h
      | some q =>
        obtain ⟨x, δ⟩ := q
        rw [hst] at h
        simp only [Option.bind_some] at h
        split at h
        · rename_i hc
          simp only [Bool.and_eq_true, List.all_eq_true, Bool.or_eq_true, Bool.not_eq_true', List.contains_eq_mem, decide_eq_false_iff_not] at hc
          have p' := p.more ho (u := ⟨x, δ, fts tm o δ⟩) (.inl ⟨hst, hc.1, rfl, hg⟩) (fun y hy => hc.2 y hy)
          exact denAny_rec rest (i + 1) _ _ _ _ hl' p' hs' h
        · cases h
    simp only [denAny_cons, fNs_eq, fSnoc_eq, putF_eq, happF_eq, allI_eq] at h
    split at h
    · rename_i hg
      exact go h (.inl hg)
    · rename_i j want hg
      split at h
      · rename_i t ht
        split at h
        · rename_i b hb
          rcases Tree.tst_run h with ⟨hw, h⟩ | ⟨hw, h⟩
          · exact go h (.inr ⟨j, want, t, b, hg, ht, hb, hw⟩)
          · have p' := p.more ho (u := ⟨.un, H0, []⟩) (.inr ⟨rfl, rfl, rfl, j, want, t, hg, ht, (by rw [hb]; exact hw)⟩) (fun y hy => .inr ⟨fun q _ hq => (by cases hq), fun q hq => (by cases hq)⟩)
            exact denAny_rec rest (i + 1) _ _ _ _ hl' p' hs' h
        · rename_i hu
          have p' := p.more ho (u := ⟨.un, H0, []⟩) (.inr ⟨rfl, rfl, rfl, j, want, t, hg, ht, (by rw [hu]; trivial)⟩) (fun y hy => .inr ⟨fun q _ hq => (by cases hq), fun q hq => (by cases hq)⟩)
          exact denAny_rec rest (i + 1) _ _ _ _ hl' p' hs' h
        · cases h
      · cases h
end
end Go.Proofs.YtldcgclbgbhffaaW.Abs

end
section
namespace Go.Proofs.YtldcgclbgbhffaaW.Abs
open Go.RowKit Go.Proofs.YtldcgclbgbhffaaW.PrintWords Go.Proofs.YtldcgclbgbhffaaW.PrintLast Go.Proofs.YtldcgclbgbhffaaW.PrintMore
set_option linter.unusedVariables false
set_option linter.unusedSectionVars false
set_option linter.unusedSimpArgs false

inductive CK where
  | ty (t : Ty)
  | own (id : Nat) (e : TypeId) (t : Ty)
  | ptr (j o : Nat)
@[reducible] def CT : List CK → Type
  | [] => Unit
  | .ty t :: l => T t × CT l
  | .own _ _ t :: l => List (T t) × CT l
  | .ptr _ _ :: l => CT l
def rdC (hp : List AB) : (fs : List CK) → List AC → Option (CT fs)
  | [], [] => some ()
  | .ty t :: l, cs => match toT hp t cs with
    | some (x, cs') => match rdC hp l cs' with
      | some y => some (x, y)
      | none => none
    | none => none
  | .own _ _ _ :: l, .nils :: cs => match rdC hp l cs with
    | some y => some ([], y)
    | none => none
  | .own _ e t :: l, .own j :: cs => match hp[j]? with
    | some (.row e' t' xs) => if h : e' = e ∧ t' = t then (match rdC hp l cs with
      | some y => h.2 ▸ some (xs, y)
      | none => none) else none
    | _ => none
  | .ptr j o :: l, .ptr j' o' :: cs => if j' = j ∧ o' = o then rdC hp l cs else none
  | _, _ => none
def wrC : (fs : List CK) → CT fs → List AC
  | [], _ => []
  | .ty t :: l, (x, y) => expl t x ++ wrC l y
  | .own id _ _ :: l, (_, y) => .own id :: wrC l y
  | .ptr j o :: l, x => .ptr j o :: wrC l x
def blC : (fs : List CK) → CT fs → List (Nat × AB)
  | [], _ => []
  | .ty _ :: l, (_, y) => blC l y
  | .own id e t :: l, (x, y) => (id, .row e t x) :: blC l y
  | .ptr _ _ :: l, x => blC l x
def roC : List CK → List AC → List (Nat × Option Nat)
  | .ty t :: l, cs => roC l (cs.drop t.size)
  | .own id _ _ :: l, .own j :: cs => (id, some j) :: roC l cs
  | .own id _ _ :: l, _ :: cs => (id, none) :: roC l cs
  | .ptr _ _ :: l, _ :: cs => roC l cs
  | _, _ => []
def tyC : List CK → List AC → List AC
  | .ty t :: l, cs => cs.take t.size ++ tyC l (cs.drop t.size)
  | .own _ _ _ :: l, _ :: cs => tyC l cs
  | .ptr _ _ :: l, _ :: cs => tyC l cs
  | _, _ => []
def ptrC : List CK → List Nat
  | [] => []
  | .ptr j _ :: l => j :: ptrC l
  | _ :: l => ptrC l
inductive Slot where
  | tmp (t : Tmp) (fs : List CK)
  | blk (j : Nat) (e : TypeId) (fs : List CK)
@[reducible] def TS : List Slot → Type
  | [] => Unit
  | .tmp _ fs :: l => CT fs × TS l
  | .blk _ _ fs :: l => CT fs × TS l
def cellsAt (tm : List AV) (hp : List AB) : Slot → List AC
  | .tmp t _ => cellsOf (tm.getD t .junk)
  | .blk j _ _ => match hp[j]? with
    | some (.cells _ cs) => cs
    | _ => []
def isBlk (hp : List AB) (j : Nat) (e : TypeId) : Bool := match hp[j]? with
  | some (.cells e' _) => e' == e
  | _ => false
def isVal (tm : List AV) (t : Tmp) : Bool := match tm.getD t .junk with
  | .val _ => true
  | _ => false
def rdS (tm : List AV) (hp : List AB) : (sl : List Slot) → Option (TS sl)
  | [] => some ()
  | .tmp t fs :: l => if isVal tm t = true then (match rdC hp fs (cellsAt tm hp (.tmp t fs)) with
    | some x => match rdS tm hp l with
      | some y => some (x, y)
      | none => none
    | none => none) else none
  | .blk j e fs :: l => if isBlk hp j e = true then (match rdC hp fs (cellsAt tm hp (.blk j e fs)) with
    | some x => match rdS tm hp l with
      | some y => some (x, y)
      | none => none
    | none => none) else none
def wrT : (sl : List Slot) → TS sl → List AV → List AV
  | [], _, tm => tm
  | .tmp t fs :: l, (x, y), tm => wrT l y (tm.set t (.val (wrC fs x)))
  | .blk _ _ _ :: l, (_, y), tm => wrT l y tm
def blS : (sl : List Slot) → TS sl → List (Nat × AB)
  | [], _ => []
  | .tmp _ fs :: l, (x, y) => blC fs x ++ blS l y
  | .blk j e fs :: l, (x, y) => (j, .cells e (wrC fs x)) :: (blC fs x ++ blS l y)
def roS (tm : List AV) (hp : List AB) : List Slot → List (Nat × Option Nat)
  | [] => []
  | .tmp t fs :: l => roC fs (cellsAt tm hp (.tmp t fs)) ++ roS tm hp l
  | .blk j e fs :: l => (j, some j) :: (roC fs (cellsAt tm hp (.blk j e fs)) ++ roS tm hp l)
def tyS (tm : List AV) (hp : List AB) : List Slot → List AC
  | [] => []
  | .tmp t fs :: l => tyC fs (cellsAt tm hp (.tmp t fs)) ++ tyS tm hp l
  | .blk j e fs :: l => tyC fs (cellsAt tm hp (.blk j e fs)) ++ tyS tm hp l
def ptrS : List Slot → List Nat
  | [] => []
  | .tmp _ fs :: l => ptrC fs ++ ptrS l
  | .blk _ _ fs :: l => ptrC fs ++ ptrS l
def blkS : List Slot → List Nat
  | [] => []
  | .tmp _ _ :: l => blkS l
  | .blk j _ _ :: l => j :: blkS l
def nodupB : List Nat → Bool
  | [] => true
  | a :: l => !l.contains a && nodupB l
def srcs : List (Nat × Option Nat) → List Nat
  | [] => []
  | (_, some j) :: l => j :: srcs l
  | (_, none) :: l => srcs l
def roOf : List (Nat × Option Nat) → Nat → Option Nat
  | [], _ => none
  | (i, s) :: l, j => if i = j then s else roOf l j
def fitB (N : Nat) (tm : List AV) (hp : List AB) (sl : List Slot) : Bool :=
  tm.length == N && nodupB ((roS tm hp sl).map (·.1)) && nodupB (srcs (roS tm hp sl)) && ((roS tm hp sl).all fun p => decide (p.1 < N)) && ((ptrS sl).all fun j => (blkS sl).contains j)
def atCut {R : Type} (N : Nat) (sl : List Slot) (g : Nat → TS sl → Option R) (k : Nat) (tm : List AV) (hp : List AB) : Tree R :=
  fChs (fzs hp (tyS tm hp sl)) hp fun hp' => if fitB N tm hp' sl = true then (match rdS tm hp' sl with
    | some x => .cll (g k x) .done
    | none => .non) else .non
def cutT (N : Nat) (sl : List Slot) (x : TS sl) : List AV := wrT sl x (List.replicate N .junk)
def cutH (N : Nat) (sl : List Slot) (x : TS sl) : List AB := chs (blS sl x) (List.replicate N .gone)
section
variable {U0 : Nat → Prop} {ν : Nat → Value} {tm : List AV} {hp : List AB} {w0 w : World} {a : Act}
inductive Vw (hp : List AB) (ρ : Nat → Option Nat) (L' : Nat → Prop) : List AC → List AC → Prop where
  | nil : Vw hp ρ L' [] []
  | ty {t : Ty} {x : T t} {cs rest cs' : List AC} (h : toT hp t cs = some (x, rest)) (hf : ∀ (j : Nat) (e : TypeId) (t' : Ty) (xs : List (T t')), AC.own j ∈ cs.take t.size → hp[j]? ≠ some (.row e t' xs)) (hr : Vw hp ρ L' rest cs') (hd : rest = cs.drop t.size) : Vw hp ρ L' cs (expl t x ++ cs')
  | own {i j : Nat} {cs cs' : List AC} (h : ρ i = some j) (hl : L' i) (hj : ∃ e t xs, hp[j]? = some (.row e t xs)) (hr : Vw hp ρ L' cs cs') : Vw hp ρ L' (.own j :: cs) (.own i :: cs')
  | nils {i : Nat} {cs cs' : List AC} (h : ρ i = none) (hl : L' i) (hr : Vw hp ρ L' cs cs') : Vw hp ρ L' (.nils :: cs) (.own i :: cs')
  | ptr {j o : Nat} {cs cs' : List AC} (h : ρ j = some j) (hl : L' j) (hr : Vw hp ρ L' cs cs') : Vw hp ρ L' (.ptr j o :: cs) (.ptr j o :: cs')
def VwB (hp : List AB) (ρ : Nat → Option Nat) (L' : Nat → Prop) (i : Nat) : AB → Prop
  | .row e t xs => (∃ j, ρ i = some j ∧ hp[j]? = some (.row e t xs)) ∨ (ρ i = none ∧ xs = [])
  | .cells e cs' => ∃ j cs, ρ i = some j ∧ hp[j]? = some (.cells e cs) ∧ Vw hp ρ L' cs cs'
  | _ => False
def seen (ν : Nat → Value) (ρ : Nat → Option Nat) (i : Nat) : Value := match ρ i with
  | some j => ν j
  | none => .slice none 0 0
theorem toT_len : ∀ {t : Ty} {cs rest : List AC} {x : T t}, toT hp t cs = some (x, rest) → rest = cs.drop t.size ∧ t.size ≤ cs.length
  | .cons p q, cs, rest, x, h => by
    simp only [toT] at h
    split at h
    · rename_i x1 cs1 h1
      split at h
      · rename_i x2 cs2 h2
        injection h with h
        injection h with hx hc
        subst hc
        obtain ⟨e1, e2⟩ := toT_len h1
        obtain ⟨e3, e4⟩ := toT_len h2
        subst e1
        rw [List.length_drop] at e4
        refine ⟨by rw [e3, List.drop_drop]; rfl, by show p.size + q.size ≤ _; omega⟩
      · cases h
    · cases h
  | .int _, cs, rest, x, h => by
    match cs with
    | [] => simp [toT] at h
    | c :: cs =>
      cases c <;> simp only [toT] at h <;> try (simp at h; done)
      split at h
      · rename_i e; subst e; injection h with h; injection h with _ h; subst h; exact ⟨rfl, by show 1 ≤ _; simp⟩
      · cases h
  | .bool, cs, rest, x, h => by
    match cs with
    | [] => simp [toT] at h
    | c :: cs =>
      cases c <;> simp only [toT] at h <;> try (simp at h; done)
      split at h
      · rename_i e; subst e; injection h with h; injection h with _ h; subst h; exact ⟨rfl, by show 1 ≤ _; simp⟩
      · cases h
  | .str, cs, rest, x, h => by
    match cs with
    | [] => simp [toT] at h
    | c :: cs =>
      cases c <;> simp only [toT] at h <;> try (simp at h; done)
      split at h
      · rename_i e; subst e; injection h with h; injection h with _ h; subst h; exact ⟨rfl, by show 1 ≤ _; simp⟩
      · cases h
  | .row _ _, cs, rest, x, h => by
    match cs with
    | [] => simp [toT] at h
    | c :: cs =>
      cases c with
      | ro t y =>
        simp only [toT] at h
        split at h
        · rename_i e; subst e; injection h with h; injection h with _ h; subst h; exact ⟨rfl, by show 1 ≤ _; simp⟩
        · cases h
      | nils => simp only [toT] at h; injection h with h; injection h with _ h; subst h; exact ⟨rfl, by show 1 ≤ _; simp⟩
      | own j =>
        simp only [toT] at h
        split at h
        · injection h with h; injection h with _ h; subst h; exact ⟨rfl, by show 1 ≤ _; simp⟩
        · cases h
      | _ => simp [toT] at h
theorem toT_take : ∀ {t : Ty} {cs rest : List AC} {x : T t} {n : Nat}, toT hp t cs = some (x, rest) → t.size ≤ n → toT hp t (cs.take n) = some (x, rest.take (n - t.size))
  | .cons p q, cs, rest, x, n, h, hn => by
    simp only [toT] at h
    split at h
    · rename_i x1 cs1 h1
      split at h
      · rename_i x2 cs2 h2
        injection h with h
        injection h with hx hc
        subst hx hc
        have hn : p.size + q.size ≤ n := hn
        simp only [toT, toT_take h1 (show p.size ≤ n by omega), toT_take h2 (show q.size ≤ n - p.size by omega)]
        rw [Nat.sub_sub]
        rfl
      · cases h
    · cases h
  | .int kk, cs, rest, x, n, h, hn => by
    match cs with
    | [] => simp [toT] at h
    | c :: cs =>
      obtain ⟨m, rfl⟩ : ∃ m, n = m + 1 := ⟨n - 1, by have : 1 ≤ n := hn; omega⟩
      rw [List.take_succ_cons, show m + 1 - Ty.size (.int kk) = m from Nat.add_sub_cancel ..]
      cases c <;> simp only [toT] at h ⊢ <;> try (simp at h; done)
      split at h
      · rename_i e
        subst e
        injection h with h; injection h with h1 h2; subst h2; subst h1
        simp
      · cases h
  | .bool, cs, rest, x, n, h, hn => by
    match cs with
    | [] => simp [toT] at h
    | c :: cs =>
      obtain ⟨m, rfl⟩ : ∃ m, n = m + 1 := ⟨n - 1, by have : 1 ≤ n := hn; omega⟩
      rw [List.take_succ_cons, show m + 1 - Ty.size .bool = m from Nat.add_sub_cancel ..]
      cases c <;> simp only [toT] at h ⊢ <;> try (simp at h; done)
      split at h
      · rename_i e
        subst e
        injection h with h; injection h with h1 h2; subst h2; subst h1
        simp
      · cases h
  | .str, cs, rest, x, n, h, hn => by
    match cs with
    | [] => simp [toT] at h
    | c :: cs =>
      obtain ⟨m, rfl⟩ : ∃ m, n = m + 1 := ⟨n - 1, by have : 1 ≤ n := hn; omega⟩
      rw [List.take_succ_cons, show m + 1 - Ty.size .str = m from Nat.add_sub_cancel ..]
      cases c <;> simp only [toT] at h ⊢ <;> try (simp at h; done)
      split at h
      · rename_i e
        subst e
        injection h with h; injection h with h1 h2; subst h2; subst h1
        simp
      · cases h
  | .row e t, cs, rest, x, n, h, hn => by
    match cs with
    | [] => simp [toT] at h
    | c :: cs =>
      obtain ⟨m, rfl⟩ : ∃ m, n = m + 1 := ⟨n - 1, by have : 1 ≤ n := hn; omega⟩
      rw [List.take_succ_cons, show m + 1 - Ty.size (.row e t) = m from Nat.add_sub_cancel ..]
      cases c with
      | ro t' y =>
        simp only [toT] at h ⊢
        split at h
        · rename_i e
          subst e
          injection h with h; injection h with h1 h2; subst h2; subst h1
          simp
        · cases h
      | nils => simp only [toT] at h ⊢; injection h with h; injection h with h1 h2; subst h2; subst h1; rfl
      | own j =>
        simp only [toT] at h ⊢
        split at h
        · rename_i xs e
          injection h with h; injection h with h1 h2; subst h2; subst h1
          simp [e]
        · cases h
      | _ => simp [toT] at h
theorem toT_rel1 (I : Inv U0 ν tm hp w0 a w) {U : Nat → Prop} (hU : ∀ k, k < w.heap.size → U k → Un U0 ν (lv hp) k) {t : Ty} {cs rest : List AC} {x : T t} {vs : List Value} (hm : MayTell U ν hp (cs.take t.size)) (h : toT hp t cs = some (x, rest)) (hr : All2 (RelC U0 ν (lv hp) w) cs vs) : Rd U w t x (vs.take t.size) ∧ All2 (RelC U0 ν (lv hp) w) rest (vs.drop t.size) := by
  have h1 := toT_take h (Nat.le_refl _)
  rw [Nat.sub_self, List.take_zero] at h1
  obtain ⟨v1, v2, e1, e2, e3, _⟩ := toT_rel I hU hm h1 (hr.take t.size)
  have : v2 = [] := by
    cases v2 with
    | nil => rfl
    | cons _ _ => exact e3.elim
  subst this
  rw [List.append_nil] at e1
  refine ⟨e1 ▸ e2, ?_⟩
  rw [(toT_len h).1]
  exact hr.drop t.size
theorem Inv.view (I : Inv U0 ν tm hp w0 a w) (hU : ∀ k, U0 k → k < w0.heap.size) {ρ : Nat → Option Nat} {tm' : List AV} {hp' : List AB} (h1 : tm'.length = tm.length)
    (h2 : ∀ i x', tm'[i]? = some x' → x' = .junk ∨ ∃ cs cs', tm.getD i .junk = .val cs ∧ x' = .val cs' ∧ Vw hp ρ (lv hp') cs cs')
    (h3 : ∀ i b', hp'[i]? = some b' → isGone b' = false → VwB hp ρ (lv hp') i b')
    (h4 : ∀ i i' j, i ≠ i' → lv hp' i → lv hp' i' → ρ i = some j → ρ i' ≠ some j) : Inv U0 (seen ν ρ) tm' hp' w0 a w := by
  have hsome : ∀ {i j : Nat}, ρ i = some j → seen ν ρ i = ν j := fun h => by unfold seen; rw [h]
  have hnone : ∀ {i : Nat}, ρ i = none → seen ν ρ i = .slice none 0 0 := fun h => by unfold seen; rw [h]
  have hlive : ∀ {i j : Nat}, lv hp' i → ρ i = some j → lv hp j := fun {i j} ⟨b', q1, q2⟩ hr => by
    have := h3 i b' q1 q2
    cases b' with
    | row e t xs =>
      rcases this with ⟨j', e1, e2⟩ | ⟨e1, _⟩
      · rw [hr] at e1; injection e1 with e1; subst e1; exact ⟨_, e2, rfl⟩
      · rw [hr] at e1; cases e1
    | cells e cs =>
      obtain ⟨j', cs0, e1, e2, _⟩ := this
      rw [hr] at e1; injection e1 with e1; subst e1; exact ⟨_, e2, rfl⟩
    | _ => exact this.elim
  have hun : ∀ k, Un U0 (seen ν ρ) (lv hp') k → Un U0 ν (lv hp) k := fun k h => by
    rcases h with h | ⟨i, hi, hb⟩
    · exact .inl h
    · cases hr : ρ i with
      | none => rw [hnone hr] at hb; cases hb
      | some j => rw [hsome hr] at hb; exact .inr ⟨j, hlive hi hr, hb⟩
  have mv : Move (Un U0 ν (lv hp)) w w (Un U0 (seen ν ρ) (lv hp')) := ⟨Nat.le_refl _, fun _ _ _ => rfl, fun k _ h => hun k h⟩
  have cells : ∀ {cs cs' : List AC}, Vw hp ρ (lv hp') cs cs' → ∀ {vs : List Value}, All2 (RelC U0 ν (lv hp) w) cs vs → All2 (RelC U0 (seen ν ρ) (lv hp') w) cs' vs := by
    intro cs cs' h
    induction h with
    | nil => intro vs hr; cases vs with
      | nil => trivial
      | cons _ _ => exact hr.elim
    | @ty t x cs rest cs' ht hf hr hd ih =>
      intro vs hvs
      obtain ⟨q1, q2⟩ := toT_rel1 I (U := Un U0 (seen ν ρ) (lv hp')) (fun k _ h => hun k h) (fun j e' t' xs hj hb => absurd hb (hf j e' t' xs hj)) ht hvs
      have := (expl_rel t x q1).app (ih q2)
      rw [List.take_append_drop] at this
      exact this
    | @own i j cs cs' hρ hl hj hr ih =>
      intro vs hvs
      match vs, hvs with
      | v :: vs, hvs => exact ⟨⟨hl, by rw [hsome hρ]; exact hvs.1.2⟩, ih hvs.2⟩
      | [], hvs => exact hvs.elim
    | @nils i cs cs' hρ hl hr ih =>
      intro vs hvs
      match vs, hvs with
      | v :: vs, hvs => exact ⟨⟨hl, by rw [hnone hρ]; exact hvs.1⟩, ih hvs.2⟩
      | [], hvs => exact hvs.elim
    | @ptr j o cs cs' hρ hl hr ih =>
      intro vs hvs
      match vs, hvs with
      | v :: vs, hvs =>
        obtain ⟨⟨_, g, e1, e2⟩, hvs2⟩ := hvs
        exact ⟨⟨hl, g, by rw [hsome hρ]; exact e1, e2⟩, ih hvs2⟩
      | [], hvs => exact hvs.elim
  refine ⟨I.size.trans h1.symm, fun i x' hx => ?_, fun i b' q1 q2 => ?_, fun i i' hii hi hi' k hk hk' => ?_, I.fr, I.defers⟩
  · rcases h2 i x' hx with rfl | ⟨cs, cs', e1, rfl, hv⟩
    · trivial
    · have hl : i < tm.length := by rw [← h1]; exact (List.getElem?_eq_some_iff.1 hx).1
      have hti : tm[i]? = some (.val cs) := by
        rw [List.getD_eq_getElem?_getD, List.getElem?_eq_getElem hl] at e1
        rw [List.getElem?_eq_getElem hl]
        exact congrArg some e1
      obtain ⟨vs, q1, q2⟩ := I.tm i _ hti
      exact ⟨vs, q1, cells hv q2⟩
  · have := h3 i b' q1 q2
    cases b' with
    | row e t xs =>
      rcases this with ⟨j, e1, e2⟩ | ⟨e1, e2⟩
      · have hB := I.mem j _ e2 rfl
        obtain ⟨inner, z1, z2⟩ := hB
        exact ⟨inner, by rw [hsome e1]; exact z1, z2.imp_ fun _ _ z => z.move mv⟩
      · subst e2
        exact ⟨[], by rw [hnone e1]; exact World.ownsRow_nil w _ _ _, Reps.none _ _⟩
    | cells e cs' =>
      obtain ⟨j, cs, e1, e2, hv⟩ := this
      obtain ⟨g, vs, z1, z2, z3, z4⟩ := I.mem j _ e2 rfl
      exact ⟨g, vs, by rw [hsome e1]; exact z1, z2, z3, cells hv z4⟩
    | _ => exact this.elim
  · cases hr : ρ i with
    | none => rw [hnone hr] at hk; cases hk
    | some j =>
      cases hr' : ρ i' with
      | none => rw [hnone hr'] at hk'; cases hk'
      | some j' =>
        rw [hsome hr] at hk
        rw [hsome hr'] at hk'
        have hne : j ≠ j' := fun e => h4 i i' j hii hi hi' hr (e ▸ hr')
        exact I.dis j j' hne (hlive hi hr) (hlive hi' hr') k hk hk'
theorem nodup_mem {l : List Nat} {a : Nat} : nodupB (a :: l) = true → a ∉ l ∧ nodupB l = true := by
  intro h
  simp only [nodupB, Bool.and_eq_true, Bool.not_eq_true', List.contains_eq_mem, decide_eq_false_iff_not] at h
  exact h
theorem roOf_mem : ∀ {l : List (Nat × Option Nat)}, nodupB (l.map (·.1)) = true → ∀ p ∈ l, roOf l p.1 = p.2
  | (i, s) :: l, h, p, hp => by
    obtain ⟨h1, h2⟩ := nodup_mem h
    rcases List.mem_cons.1 hp with rfl | hp
    · simp [roOf]
    · have : i ≠ p.1 := fun e => h1 (e ▸ List.mem_map.2 ⟨p, hp, rfl⟩)
      simp only [roOf, if_neg this]
      exact roOf_mem h2 p hp
theorem srcs_mem : ∀ {l : List (Nat × Option Nat)} {i j : Nat}, (i, some j) ∈ l → j ∈ srcs l
  | (a, s) :: l, i, j, h => by
    rcases List.mem_cons.1 h with e | h'
    · injection e with _ e2
      subst e2
      exact List.mem_cons_self
    · cases s with
      | none => exact srcs_mem (l := l) h'
      | some k => exact List.mem_cons_of_mem _ (srcs_mem (l := l) h')
theorem srcs_inj : ∀ {l : List (Nat × Option Nat)}, nodupB (srcs l) = true → ∀ {i i' j : Nat}, (i, some j) ∈ l → (i', some j) ∈ l → i = i'
  | (a, none) :: l, h, i, i', j, h1, h2 => by
    have h1 := (List.mem_cons.1 h1).resolve_left (fun e => by cases e)
    have h2 := (List.mem_cons.1 h2).resolve_left (fun e => by cases e)
    exact srcs_inj (l := l) h h1 h2
  | (a, some k) :: l, h, i, i', j, h1, h2 => by
    obtain ⟨hk, hl⟩ := nodup_mem (show nodupB (k :: srcs l) = true from h)
    rcases List.mem_cons.1 h1 with e1 | g1 <;> rcases List.mem_cons.1 h2 with e2 | g2
    · injection e1 with e1 _; injection e2 with e2 _; rw [e1, e2]
    · injection e1 with _ e1; injection e1 with e1; subst e1; exact absurd (srcs_mem (l := l) g2) hk
    · injection e2 with _ e2; injection e2 with e2; subst e2; exact absurd (srcs_mem (l := l) g1) hk
    · exact srcs_inj hl g1 g2
theorem rdC_vw {ρ : Nat → Option Nat} {L' : Nat → Prop} : ∀ {fs : List CK} {cs : List AC} {x : CT fs}, rdC hp fs cs = some x → (∀ p ∈ roC fs cs, ρ p.1 = p.2 ∧ L' p.1) → (∀ j ∈ ptrC fs, ρ j = some j ∧ L' j) → (∀ j e t xs, AC.own j ∈ tyC fs cs → hp[j]? ≠ some (.row e t xs)) →
    Vw hp ρ L' cs (wrC fs x) ∧ (∀ p ∈ blC fs x, VwB hp ρ L' p.1 p.2 ∧ isGone p.2 = false ∧ ∃ s, (p.1, s) ∈ roC fs cs) ∧ ∀ p ∈ roC fs cs, ∃ b, (p.1, b) ∈ blC fs x
  | [], [], x, h, _, _, _ => ⟨.nil, fun p hp => by simp [blC] at hp, fun p hp => by simp [roC] at hp⟩
  | [], _ :: _, x, h, _, _, _ => by simp [rdC] at h
  | .ty t :: l, cs, x, h, h1, h2, h3 => by
    simp only [rdC] at h
    split at h
    · rename_i x1 cs1 hx
      split at h
      · rename_i y hy
        injection h with h
        subst h
        obtain ⟨hd, _⟩ := toT_len hx
        have hd' := hd
        subst hd
        obtain ⟨q1, q2, q3⟩ := rdC_vw hy (fun p hp => h1 p (by simpa [roC] using hp)) h2 (fun j e t' xs hj => h3 j e t' xs (List.mem_append_right _ hj))
        exact ⟨.ty hx (fun j e t' xs hj => h3 j e t' xs (List.mem_append_left _ hj)) q1 rfl, by simpa [blC, roC] using q2, by simpa [blC, roC] using q3⟩
      · cases h
    · cases h
  | .own id e t :: l, [], x, h, _, _, _ => by simp [rdC] at h
  | .ptr j o :: l, [], x, h, _, _, _ => by simp [rdC] at h
  | .own id e t :: l, c :: cs, x, h, h1, h2, h3 => by
    cases c with
    | nils =>
      simp only [rdC] at h
      split at h
      · rename_i y hy
        injection h with h
        subst h
        obtain ⟨q1, q2, q3⟩ := rdC_vw hy (fun p hp => h1 p (List.mem_cons_of_mem _ hp)) h2 h3
        have hh := h1 (id, none) List.mem_cons_self
        refine ⟨.nils hh.1 hh.2 q1, fun p hp => ?_, fun p hp => ?_⟩
        · rcases List.mem_cons.1 hp with rfl | hp
          · exact ⟨.inr ⟨hh.1, rfl⟩, rfl, none, List.mem_cons_self⟩
          · obtain ⟨z1, z2, s, z3⟩ := q2 p hp
            exact ⟨z1, z2, s, List.mem_cons_of_mem _ z3⟩
        · rcases List.mem_cons.1 hp with rfl | hp
          · exact ⟨_, List.mem_cons_self⟩
          · obtain ⟨b, z⟩ := q3 p hp
            exact ⟨b, List.mem_cons_of_mem _ z⟩
      · cases h
    | own j =>
      simp only [rdC] at h
      split at h
      · rename_i e' t' xs hb
        split at h
        · rename_i q
          obtain ⟨rfl, rfl⟩ := q
          split at h
          · rename_i y hy
            injection h with h
            subst h
            obtain ⟨q1, q2, q3⟩ := rdC_vw hy (fun p hp => h1 p (List.mem_cons_of_mem _ hp)) h2 h3
            have hh := h1 (id, some j) List.mem_cons_self
            refine ⟨.own hh.1 hh.2 ⟨_, _, _, hb⟩ q1, fun p hp => ?_, fun p hp => ?_⟩
            · rcases List.mem_cons.1 hp with rfl | hp
              · exact ⟨.inl ⟨j, hh.1, hb⟩, rfl, _, List.mem_cons_self⟩
              · obtain ⟨z1, z2, s, z3⟩ := q2 p hp
                exact ⟨z1, z2, s, List.mem_cons_of_mem _ z3⟩
            · rcases List.mem_cons.1 hp with rfl | hp
              · exact ⟨_, List.mem_cons_self⟩
              · obtain ⟨b, z⟩ := q3 p hp
                exact ⟨b, List.mem_cons_of_mem _ z⟩
          · cases h
        · cases h
      · cases h
    | _ => simp [rdC] at h
  | .ptr j o :: l, c :: cs, x, h, h1, h2, h3 => by
    cases c with
    | ptr j' o' =>
      simp only [rdC] at h
      split at h
      · rename_i q
        obtain ⟨rfl, rfl⟩ := q
        obtain ⟨q1, q2, q3⟩ := rdC_vw h (fun p hp => h1 p (by simpa [roC] using hp)) (fun j hj => h2 j (List.mem_cons_of_mem _ hj)) h3
        have hh := h2 _ List.mem_cons_self
        exact ⟨.ptr hh.1 hh.2 q1, by simpa [blC, roC] using q2, by simpa [blC, roC] using q3⟩
      · cases h
    | _ => simp [rdC] at h
theorem rdS_vw {ρ : Nat → Option Nat} {L' : Nat → Prop} : ∀ {sl : List Slot} {x : TS sl}, rdS tm hp sl = some x → (∀ p ∈ roS tm hp sl, ρ p.1 = p.2 ∧ L' p.1) → (∀ j ∈ ptrS sl, ρ j = some j ∧ L' j) → (∀ j e t xs, AC.own j ∈ tyS tm hp sl → hp[j]? ≠ some (.row e t xs)) →
    (∀ tm1 : List AV, (∀ i x', tm1[i]? = some x' → x' = .junk ∨ ∃ cs cs', tm.getD i .junk = .val cs ∧ x' = .val cs' ∧ Vw hp ρ L' cs cs') → ∀ i x', (wrT sl x tm1)[i]? = some x' → x' = .junk ∨ ∃ cs cs', tm.getD i .junk = .val cs ∧ x' = .val cs' ∧ Vw hp ρ L' cs cs') ∧
      (∀ p ∈ blS sl x, VwB hp ρ L' p.1 p.2 ∧ isGone p.2 = false ∧ ∃ s, (p.1, s) ∈ roS tm hp sl) ∧ ∀ p ∈ roS tm hp sl, ∃ b, (p.1, b) ∈ blS sl x
  | [], x, h, _, _, _ => ⟨fun _ h => h, fun p hp => by simp [blS] at hp, fun p hp => by simp [roS] at hp⟩
  | .tmp t fs :: l, x, h, h1, h2, h3 => by
    simp only [rdS] at h
    split at h
    · rename_i hv
      split at h
      · rename_i x1 hx
        split at h
        · rename_i y hy
          injection h with h
          subst h
          obtain ⟨q1, q2, q3⟩ := rdC_vw hx (fun p hp => h1 p (List.mem_append_left _ hp)) (fun j hj => h2 j (List.mem_append_left _ hj)) (fun j e t xs hj => h3 j e t xs (List.mem_append_left _ hj))
          obtain ⟨z1, z2, z3⟩ := rdS_vw hy (fun p hp => h1 p (List.mem_append_right _ hp)) (fun j hj => h2 j (List.mem_append_right _ hj)) (fun j e t xs hj => h3 j e t xs (List.mem_append_right _ hj))
          refine ⟨fun tm1 ht => z1 _ fun i x' hi => ?_, fun p hp => ?_, fun p hp => ?_⟩
          · rw [List.getElem?_set] at hi
            split at hi
            · rename_i e
              subst e
              split at hi
              · injection hi with hi
                subst hi
                unfold isVal at hv
                split at hv
                · rename_i cs hc
                  refine .inr ⟨cs, _, hc, rfl, ?_⟩
                  have : cellsAt tm hp (.tmp t fs) = cs := by simp only [cellsAt, hc, cellsOf]
                  rw [this] at q1
                  exact q1
                · cases hv
              · cases hi
            · exact ht i x' hi
          · rcases List.mem_append.1 hp with hp | hp
            · obtain ⟨y1, y2, s, y3⟩ := q2 p hp
              exact ⟨y1, y2, s, List.mem_append_left _ y3⟩
            · obtain ⟨y1, y2, s, y3⟩ := z2 p hp
              exact ⟨y1, y2, s, List.mem_append_right _ y3⟩
          · rcases List.mem_append.1 hp with hp | hp
            · obtain ⟨b, y⟩ := q3 p hp
              exact ⟨b, List.mem_append_left _ y⟩
            · obtain ⟨b, y⟩ := z3 p hp
              exact ⟨b, List.mem_append_right _ y⟩
        · cases h
      · cases h
    · cases h
  | .blk j e fs :: l, x, h, h1, h2, h3 => by
    simp only [rdS] at h
    split at h
    · rename_i hv
      split at h
      · rename_i x1 hx
        split at h
        · rename_i y hy
          injection h with h
          subst h
          have h1' : ∀ p ∈ roC fs (cellsAt tm hp (.blk j e fs)) ++ roS tm hp l, ρ p.1 = p.2 ∧ L' p.1 := fun p hp => h1 p (List.mem_cons_of_mem _ hp)
          obtain ⟨q1, q2, q3⟩ := rdC_vw hx (fun p hp => h1' p (List.mem_append_left _ hp)) (fun j hj => h2 j (List.mem_append_left _ hj)) (fun j e t xs hj => h3 j e t xs (List.mem_append_left _ hj))
          obtain ⟨z1, z2, z3⟩ := rdS_vw hy (fun p hp => h1' p (List.mem_append_right _ hp)) (fun j hj => h2 j (List.mem_append_right _ hj)) (fun j e t xs hj => h3 j e t xs (List.mem_append_right _ hj))
          have hj := h1 (j, some j) List.mem_cons_self
          refine ⟨fun tm1 ht => z1 tm1 ht, fun p hp => ?_, fun p hp => ?_⟩
          · rcases List.mem_cons.1 hp with rfl | hp
            · clear hp
              refine ⟨?_, rfl, some j, List.mem_cons_self⟩
              unfold isBlk at hv
              split at hv
              · rename_i e' cs hb
                have he : e' = e := by simpa using hv
                subst he
                have : cellsAt tm hp (.blk j e' fs) = cs := by simp only [cellsAt, hb]
                rw [this] at q1
                exact ⟨j, cs, hj.1, hb, q1⟩
              · cases hv
            · rcases List.mem_append.1 hp with hp | hp
              · obtain ⟨y1, y2, s, y3⟩ := q2 p hp
                exact ⟨y1, y2, s, List.mem_cons_of_mem _ (List.mem_append_left _ y3)⟩
              · obtain ⟨y1, y2, s, y3⟩ := z2 p hp
                exact ⟨y1, y2, s, List.mem_cons_of_mem _ (List.mem_append_right _ y3)⟩
          · rcases List.mem_cons.1 hp with rfl | hp
            · exact ⟨_, List.mem_cons_self⟩
            · rcases List.mem_append.1 hp with hp | hp
              · obtain ⟨b, y⟩ := q3 p hp
                exact ⟨b, List.mem_cons_of_mem _ (List.mem_append_left _ y)⟩
              · obtain ⟨b, y⟩ := z3 p hp
                exact ⟨b, List.mem_cons_of_mem _ (List.mem_append_right _ y)⟩
        · cases h
      · cases h
    · cases h
theorem chB_in : ∀ {l : List (Nat × AB)} {i : Nat} {b : AB}, chB l i = some b → (i, b) ∈ l
  | (j, c) :: l, i, b, h => by
    unfold chB at h
    split at h
    · rename_i e; injection h with h; subst e h; exact List.mem_cons_self
    · exact List.mem_cons_of_mem _ (chB_in h)
theorem chB_some : ∀ {l : List (Nat × AB)} {i : Nat} {b : AB}, (i, b) ∈ l → ∃ c, chB l i = some c
  | (j, c) :: l, i, b, h => by
    unfold chB
    by_cases e : j = i
    · exact ⟨c, if_pos e⟩
    · rw [if_neg e]
      exact chB_some ((List.mem_cons.1 h).resolve_left fun z => e (by injection z with z _; exact z.symm))
theorem len_wrT : ∀ {sl : List Slot} {x : TS sl} {tm : List AV}, (wrT sl x tm).length = tm.length
  | [], _, _ => rfl
  | .tmp t fs :: l, (x, y), tm => by simp only [wrT, len_wrT (sl := l), List.length_set]
  | .blk _ _ _ :: l, (x, y), tm => len_wrT (sl := l)
theorem cellsAt_frz {l : List (Nat × AB)} (h : FzOk hp l) (s : Slot) : cellsAt tm (chs l hp) s = cellsAt tm hp s := by
  cases s with
  | tmp t fs => rfl
  | blk j e fs =>
    simp only [cellsAt]
    rcases chs_get h j with q | ⟨e', t', xs', q1, q2, _⟩
    · rw [q]
    · rw [q1, q2]
theorem tyS_frz {l : List (Nat × AB)} (h : FzOk hp l) : ∀ (sl : List Slot), tyS tm (chs l hp) sl = tyS tm hp sl
  | [] => rfl
  | .tmp t fs :: sl => by simp only [tyS, cellsAt_frz h, tyS_frz h sl]
  | .blk j e fs :: sl => by simp only [tyS, cellsAt_frz h, tyS_frz h sl]
theorem blk_src : ∀ {sl : List Slot} {j : Nat}, j ∈ blkS sl → (j, some j) ∈ roS tm hp sl
  | .tmp t fs :: l, j, h => List.mem_append_right _ (blk_src (sl := l) h)
  | .blk i e fs :: l, j, h => by
    rcases List.mem_cons.1 h with rfl | h
    · exact List.mem_cons_self
    · exact List.mem_cons_of_mem _ (List.mem_append_right _ (blk_src h))
theorem Inv.cut (I : Inv U0 ν tm hp w0 a w) (hU : ∀ k, U0 k → k < w0.heap.size) {R : Type} {r : R} {N k : Nat} {sl : List Slot} {g : Nat → TS sl → Option R} (h : (atCut N sl g k tm hp).run = some r) : ∃ x ν', g k x = some r ∧ Inv U0 ν' (cutT N sl x) (cutH N sl x) w0 a w := by
  unfold atCut at h
  rw [fChs_eq] at h
  split at h
  · rename_i hfit
    split at h
    · rename_i x hx
      obtain ⟨y, hy, he⟩ := Tree.cll_run h
      have he : some y = some r := he
      injection he with he
      subst he
      have hfz := fzs_ok (hp := hp) (tyS tm hp sl)
      obtain ⟨ν', I'⟩ := I.freezes hU hfz
      generalize hhp : chs (fzs hp (tyS tm hp sl)) hp = hp' at *
      simp only [fitB, Bool.and_eq_true, beq_iff_eq, List.all_eq_true, decide_eq_true_eq, List.contains_eq_mem] at hfit
      obtain ⟨⟨⟨⟨f1, f2⟩, f3⟩, f4⟩, f5⟩ := hfit
      have hno : ∀ j e t xs, AC.own j ∈ tyS tm hp' sl → hp'[j]? ≠ some (.row e t xs) := fun j e t xs hj hb => by
        have hj' : AC.own j ∈ tyS tm hp sl := by rw [← hhp, tyS_frz hfz] at hj; exact hj
        have hi : inFz (fzs hp (tyS tm hp sl)) j = true := by
          rcases chs_get hfz j with q | ⟨e', t', xs', q1, q2, q3⟩
          · rw [hhp, hb] at q
            exact fzs_in hj' q.symm
          · exact q3
        obtain ⟨_, _, _, z⟩ := chs_has hfz hi
        rw [hhp, hb] at z
        cases z
      have hro := roOf_mem f2
      have hcut : ∀ i, i < N → (cutH N sl x)[i]? = some (match chB (blS sl x) i with
          | some b => b
          | none => .gone) := fun i hi => by
        unfold cutH
        rw [chs_at (by simpa using hi)]
        cases chB (blS sl x) i with
        | some b => rfl
        | none => simp [List.getD_eq_getElem?_getD, hi]
      have hge : ∀ i, N ≤ i → (cutH N sl x)[i]? = none := fun i hi => List.getElem?_eq_none (by unfold cutH; rw [len_chs]; simpa using hi)
      -- first without what lives
      obtain ⟨_, b1, b2⟩ := rdS_vw (ρ := roOf (roS tm hp' sl)) (L' := fun _ => True) hx (fun p hp => ⟨hro p hp, trivial⟩) (fun j hj => ⟨hro (j, some j) (blk_src (f5 j hj)), trivial⟩) hno
      have hlv : ∀ p ∈ roS tm hp' sl, lv (cutH N sl x) p.1 := fun p hp => by
        obtain ⟨b, hb⟩ := b2 p hp
        obtain ⟨c, hc⟩ := chB_some hb
        refine ⟨c, by rw [hcut p.1 (f4 p hp), hc], (b1 (p.1, c) (chB_in hc)).2.1⟩
      obtain ⟨c0, c1, c2⟩ := rdS_vw (ρ := roOf (roS tm hp' sl)) (L' := lv (cutH N sl x)) hx (fun p hp => ⟨hro p hp, hlv p hp⟩) (fun j hj => ⟨hro (j, some j) (blk_src (f5 j hj)), hlv (j, some j) (blk_src (f5 j hj))⟩) hno
      have hin : ∀ i, lv (cutH N sl x) i → ∃ s, (i, s) ∈ roS tm hp' sl := fun i ⟨b, h1, h2⟩ => by
        rcases Nat.lt_or_ge i N with hi | hi
        · rw [hcut i hi] at h1
          cases hc : chB (blS sl x) i with
          | none => rw [hc] at h1; injection h1 with h1; subst h1; cases h2
          | some c => exact (c1 (i, c) (chB_in hc)).2.2
        · rw [hge i hi] at h1; cases h1
      refine ⟨x, seen ν' (roOf (roS tm hp' sl)), hy, I'.view hU (by unfold cutT; rw [len_wrT]; simp [f1]) (fun i x' hi => ?_) (fun i b' h1 h2 => ?_) (fun i i' j hii hi hi' h1 h2 => ?_)⟩
      · refine c0 _ (fun i x' hi => .inl ?_) i x' hi
        rw [List.getElem?_replicate] at hi
        split at hi
        · injection hi with hi; exact hi.symm
        · cases hi
      · rcases Nat.lt_or_ge i N with hi | hi
        · rw [hcut i hi] at h1
          cases hc : chB (blS sl x) i with
          | none => rw [hc] at h1; injection h1 with h1; subst h1; cases h2
          | some c =>
            rw [hc] at h1; injection h1 with h1; subst h1
            exact (c1 (i, c) (chB_in hc)).1
        · rw [hge i hi] at h1; cases h1
      · obtain ⟨s, hs⟩ := hin i hi
        obtain ⟨s', hs'⟩ := hin i' hi'
        have e1 := hro _ hs
        have e2 := hro _ hs'
        rw [h1] at e1
        rw [h2] at e2
        have e1 : some j = s := e1
        have e2 : some j = s' := e2
        subst e1 e2
        exact hii (srcs_inj f3 hs hs')
    · cases h
  · cases h
end
end Go.Proofs.YtldcgclbgbhffaaW.Abs

end
section
namespace Go.Proofs.YtldcgclbgbhffaaW.Abs
open Go.RowKit Go.Proofs.YtldcgclbgbhffaaW.PrintWords Go.Proofs.YtldcgclbgbhffaaW.PrintLast Go.Proofs.YtldcgclbgbhffaaW.PrintMore
set_option linter.unusedVariables false
set_option linter.unusedSectionVars false
set_option linter.unusedSimpArgs false

inductive Ex where
  | normal | ret | exit (id : Nat)
def loops : Code → Nat
  | .seq a b => loops a + loops b
  | .cond _ x y => loops x + loops y
  | .block _ b => loops b
  | .loop c => loops c + 1
  | .scope c => loops c
  | _ => 0
abbrev KontT (R : Type) := Nat → Ex → List AV → List AB → Tree R
structure Cut (R : Type) where
  sl : List Slot
  g : Nat → TS sl → Option R
structure Cuts (R : Type) where
  N : Nat
  lp : Nat → Option (Cut R)
  rb : Nat → Option (Cut R)
  ra : Nat → Option (Cut R)
def lookC {R : Type} : List (Nat × Cut R) → Nat → Option (Cut R)
  | [], _ => none
  | (u, c) :: l, i => if i = u then some c else lookC l i
section
variable {R : Type}
def Cut.go (N : Nat) (c : Cut R) (k : Nat) (tm : List AV) (hp : List AB) : Tree R := atCut N c.sl c.g k tm hp
def KseqT (d : KontT R → Nat → List AV → List AB → Tree R) (K : KontT R) : KontT R := fun k e tm hp => match e with
  | .normal => d K k tm hp
  | e => K k e tm hp
def inB (id : Nat) : Ex → Ex
  | .exit j => if j = id then .normal else .exit j
  | e => e
def KblkT (id : Nat) (K : KontT R) : KontT R := fun k e tm hp => K k (inB id e) tm hp
def KloopT (N : Nat) (c : Cut R) (K : KontT R) : KontT R := fun k e tm hp => match e with
  | .normal => c.go N k tm hp
  | e => K k e tm hp
noncomputable def regD (Θ : Tab) (S : FuncId → Option FSpec) (Bt : Nat → List Nat) (id : Nat) (ops : Array Oper) (draw : Bool) (K : KontT R) (k : Nat) (tm : List AV) (hp : List AB) : Tree R :=
  if draw = true then denAny Θ S k ops (Bt id) ops.toList 0 [] tm hp (K k .normal) else denOps Θ S k ops ops.toList tm hp (K k .normal)
def behind (C : Cuts R) (id : Nat) (K : KontT R) : KontT R := match C.ra id with
  | some ct => KloopT C.N ct K
  | none => K
noncomputable def den (Θ : Tab) (S : FuncId → Option FSpec) (Bt : Nat → List Nat) (C : Cuts R) (c : Code) : Nat → KontT R → Nat → List AV → List AB → Tree R :=
  Code.rec (motive := fun _ => Nat → KontT R → Nat → List AV → List AB → Tree R)
    (fun _ K k tm hp => K k .normal tm hp)
    (fun id ops draw _ K k tm hp => match C.rb id with
      | some ct => ct.go C.N k tm hp
      | none => regD Θ S Bt id ops draw (behind C id K) k tm hp)
    (fun a _ da db n K k tm hp => da n (KseqT (db (n + loops a)) K) k tm hp)
    (fun c x _ dx dy n K k tm hp => match opnd tm c with
      | .val [.ro .bool b] => Tree.tst ((b : Bool) = true) (dx n K k tm hp) (dy (n + loops x) K k tm hp)
      | _ => .non)
    (fun id _ db n K k tm hp => db n (KblkT id K) k tm hp)
    (fun _ _ n _ k tm hp => match C.lp n with
      | some ct => ct.go C.N k tm hp
      | none => .non)
    (fun _ _ _ _ _ _ _ _ _ _ _ => .non)
    (fun id _ K k tm hp => K k (.exit id) tm hp)
    (fun _ db n K k tm hp => db n K k tm hp)
    (fun _ _ K k tm hp => K k .normal tm hp)
    (fun _ _ _ _ _ _ => .non)
    (fun _ K k tm hp => K k .ret tm hp)
    (fun _ _ _ _ _ _ => .non) c
def storesB (ops : Array Oper) : Bool := ops.all fun o => match o.op with
  | .store .. => o.dst.isNone
  | _ => true
def codeB (Bt : Nat → List Nat) : Code → Bool
  | .seq a b => codeB Bt a && codeB Bt b
  | .cond _ x y => codeB Bt x && codeB Bt y
  | .block _ b => codeB Bt b
  | .scope b => codeB Bt b
  | .loop c => codeB Bt c
  | .region id ops draw => storesB ops && (!draw || regB ops (Bt id))
  | _ => true
def ObD (C : Cuts R) (ct : Cut R) (D : Nat → List AV → List AB → Tree R) : Prop := ∀ k x r, ct.g k x = some r → ∃ k', k' ≤ k ∧ (D k' (cutT C.N ct.sl x) (cutH C.N ct.sl x)).run = some r
def obA (C : Cuts R) (id : Nat) (K : KontT R) (q : Prop) : Prop := match C.ra id with
  | some ct => ObD C ct (fun k => K k .normal) ∧ q
  | none => q
theorem obA_last {C : Cuts R} {id : Nat} {K : KontT R} {q : Prop} (h : obA C id K q) : q := by
  unfold obA at h
  split at h
  · exact h.2
  · exact h
def ObL (C : Cuts R) (ct : Cut R) (D : Nat → List AV → List AB → Tree R) : Prop := ∀ k x r, ct.g k x = some r → ∃ k', k' < k ∧ (D k' (cutT C.N ct.sl x) (cutH C.N ct.sl x)).run = some r
noncomputable def obs (Θ : Tab) (S : FuncId → Option FSpec) (Bt : Nat → List Nat) (C : Cuts R) (c : Code) : Nat → KontT R → Prop → Prop :=
  Code.rec (motive := fun _ => Nat → KontT R → Prop → Prop)
    (fun _ _ q => q)
    (fun id ops draw _ K q => match C.rb id with
      | some ct => ObD C ct (regD Θ S Bt id ops draw (behind C id K)) ∧ obA C id K q
      | none => obA C id K q)
    (fun a b da db n K q => da n (KseqT (den Θ S Bt C b (n + loops a)) K) (db (n + loops a) K q))
    (fun _ x _ dx dy n K q => dx n K (dy (n + loops x) K q))
    (fun id _ db n K q => db n (KblkT id K) q)
    (fun b db n K q => match C.lp n with
      | some ct => ObL C ct (den Θ S Bt C b (n + 1) (KloopT C.N ct K)) ∧ db (n + 1) (KloopT C.N ct K) q
      | none => db (n + 1) K q)
    (fun _ _ _ _ _ _ _ _ q => q)
    (fun _ _ _ q => q)
    (fun _ db n K q => db n K q)
    (fun _ _ _ q => q)
    (fun _ _ _ q => q)
    (fun _ _ q => q)
    (fun _ _ _ q => q) c
theorem obs_last {Θ : Tab} {S : FuncId → Option FSpec} {Bt : Nat → List Nat} {C : Cuts R} : ∀ (c : Code) (n : Nat) (K : KontT R) (q : Prop), obs Θ S Bt C c n K q → q
  | .skip, _, _, _, h => h
  | .region id ops draw, n, K, q, h => by
    change (match C.rb id with
      | some ct => ObD C ct (regD Θ S Bt id ops draw (behind C id K)) ∧ obA C id K q
      | none => obA C id K q) at h
    split at h
    · exact obA_last h.2
    · exact obA_last h
  | .seq a b, n, K, q, h => obs_last b _ _ _ (obs_last a _ _ _ h)
  | .cond _ x y, n, K, q, h => obs_last y _ _ _ (obs_last x _ _ _ h)
  | .block id b, n, K, q, h => obs_last b _ _ _ h
  | .loop b, n, K, q, h => by
    change (match C.lp n with
      | some ct => ObL C ct (den Θ S Bt C b (n + 1) (KloopT C.N ct K)) ∧ obs Θ S Bt C b (n + 1) (KloopT C.N ct K) q
      | none => obs Θ S Bt C b (n + 1) K q) at h
    split at h
    · exact obs_last b _ _ _ h.2
    · exact obs_last b _ _ _ h
  | .scope b, n, K, q, h => obs_last b _ _ _ h
  | .exit _, _, _, _, h => h
  | .label _, _, _, _, h => h
  | .goto _, _, _, _, h => h
  | .ret, _, _, _, h => h
  | .rangeFunc .., _, _, _, h => h
  | .refuse _, _, _, _, h => h
end
def exOf : Ex → Exit
  | .normal => .normal
  | .ret => .ret
  | .exit id => .exit id
section
variable {P : Program} {Θ : Tab} {S : FuncId → Option FSpec} {U0 : Nat → Prop} {w0 : World} {R : Type} {r : R} {Bt : Nat → List Nat} {C : Cuts R}
theorem SpecsOk.less {k k0 : Nat} (h : SpecsOk P S k0) (hk : k ≤ k0) : SpecsOk P S k := fun g s hs => ⟨(h g s hs).1, fun q hq => (h g s hs).2 q (Nat.le_trans hq hk)⟩
def Fits (U0 : Nat → Prop) (w0 : World) (k0 : Nat) (r : R) (K : KontT R) (Q : Exit → Act → World → Prop) : Prop := ∀ k e tm hp, k ≤ k0 → (K k e tm hp).run = some r → ∀ ν a w, Inv U0 ν tm hp w0 a w → Q (exOf e) a w
theorem fits_seq {k0 : Nat} {d : KontT R → Nat → List AV → List AB → Tree R} {K : KontT R} {Q : Exit → Act → World → Prop} {next : Act → World → Prop} (h : Fits U0 w0 k0 r K Q) (hn : ∀ k tm hp, k ≤ k0 → (d K k tm hp).run = some r → ∀ ν a w, Inv U0 ν tm hp w0 a w → next a w) : Fits U0 w0 k0 r (KseqT d K) (Exit.then next Q) := by
  intro k e tm hp hk hK ν a w I
  cases e with
  | normal => exact hn k tm hp hk hK ν a w I
  | ret => exact h k .ret tm hp hk hK ν a w I
  | exit id => exact h k (.exit id) tm hp hk hK ν a w I
theorem fits_blk {k0 : Nat} {id : Nat} {K : KontT R} {Q : Exit → Act → World → Prop} (h : Fits U0 w0 k0 r K Q) : Fits U0 w0 k0 r (KblkT id K) (Exit.inBlock id Q) := by
  intro k e tm hp hk hK ν a w I
  cases e with
  | normal => exact h k .normal tm hp hk hK ν a w I
  | ret => exact h k .ret tm hp hk hK ν a w I
  | exit j =>
    have hK : (K k (if j = id then Ex.normal else Ex.exit j) tm hp).run = some r := hK
    show (if j = id then Q .normal a w else Q (.exit j) a w)
    by_cases hj : j = id
    · rw [if_pos hj] at hK ⊢; exact h k .normal tm hp hk hK ν a w I
    · rw [if_neg hj] at hK ⊢; exact h k (.exit j) tm hp hk hK ν a w I
theorem fits_behind (hU0 : ∀ q, U0 q → q < w0.heap.size) {k0 : Nat} {id : Nat} {K : KontT R} {Q : Exit → Act → World → Prop} {q : Prop} (ho : obA C id K q) (h : Fits U0 w0 k0 r K Q) : Fits U0 w0 k0 r (behind C id K) Q := by
  unfold behind
  unfold obA at ho
  split at ho
  · rename_i ct he
    intro k e tm hp hk hK ν a w I
    cases e with
    | normal =>
      obtain ⟨x, ν', hg, I'⟩ := I.cut hU0 hK
      obtain ⟨k', hk', hd⟩ := ho.1 k x r hg
      exact h k' .normal _ _ (by omega) hd ν' a w I'
    | ret => exact h k .ret tm hp hk hK ν a w I
    | exit id => exact h k (.exit id) tm hp hk hK ν a w I
  · exact h
theorem fits_scope {k0 : Nat} {K : KontT R} {Q : Exit → Act → World → Prop} (h : Fits U0 w0 k0 r K Q) : Fits U0 w0 k0 r K (Exit.noGoto Q) := by
  intro k e tm hp hk hK ν a w I
  cases e with
  | normal => exact h k .normal tm hp hk hK ν a w I
  | ret => exact h k .ret tm hp hk hK ν a w I
  | exit id => exact h k (.exit id) tm hp hk hK ν a w I
theorem store_dst {ops : Array Oper} (h : storesB ops = true) : ∀ o ∈ ops.toList, ∀ t x y, o.op = .store t x y → o.dst = none := by
  intro o ho t x y hop
  unfold storesB at h
  rw [Array.all_eq_true'] at h
  have := h o (by simpa using ho)
  rw [hop] at this
  simpa using this
theorem Inv.drawn {ν : Nat → Value} {tm : List AV} {hp : List AB} {a : Act} {w : World} (I : Inv U0 ν tm hp w0 a w) : Inv U0 ν tm hp w0 a { w with drawn := w.drawn + 1 } :=
  I.go (a := a) none .junk undef (Nat.le_refl _) (fun _ _ => rfl) (fun j hj k hk => (I.lt hj hk).1) trivial (I.fr.trans ⟨rfl, rfl, rfl, Nat.le_refl _, fun _ _ => rfl⟩)
theorem region_ok (hm : P.follows .mixedOrders = true) (hΘ : Θ.ok P = true) (hU0 : ∀ q, U0 q → q < w0.heap.size) {id : Nat} {ops : Array Oper} {draw : Bool} {k0 : Nat} {K : KontT R} {Q : Exit → Act → World → Prop} (hS : SpecsOk P S k0) (hc : codeB Bt (.region id ops draw) = true) (hK : Fits U0 w0 k0 r K Q)
    {k : Nat} {tm : List AV} {hp : List AB} (hk : k ≤ k0) (h : (regD Θ S Bt id ops draw K k tm hp).run = some r) {ν : Nat → Value} {a : Act} {w : World} (I : Inv U0 ν tm hp w0 a w) : (Code.region id ops draw).wp P Q a w := by
  simp only [codeB, Bool.and_eq_true, Bool.or_eq_true, Bool.not_eq_true'] at hc
  unfold regD at h
  split at h
  · rename_i hd
    subst hd
    have hr : regB ops (Bt id) = true := hc.2.resolve_left (by simp)
    unfold regB at hr
    rw [Bool.and_eq_true] at hr
    obtain ⟨us, rec, hfin⟩ := denAny_rec ops.toList 0 (fun _ => ⟨.junk, H0, []⟩) [] tm hp rfl ⟨rfl, fun j hj => by omega, fun a b ha => by omega, tmD_zero.symm, hpD_zero.symm⟩ (by simp) h
    refine wp_region_any hm ?_
    have hfalse : ∀ {j : Nat}, j < ops.size → dn (Array.replicate ops.size false) j = false := fun {j} hj => by unfold dn; simp [hj]
    have e1 : tmD ops us tm (dn (Array.replicate ops.size false)) ops.size = tm := by
      have : tmD ops us tm (dn (Array.replicate ops.size false)) ops.size = tmD ops us tm (dn (Array.replicate ops.size false)) 0 := by
        unfold tmD
        exact List.map_congr_left fun t _ => lw_skip _ _ (by omega) fun m _ hm _ => hfalse hm
      rw [this, tmD_zero]
    have e2 : hpD ops us hp (dn (Array.replicate ops.size false)) ops.size = hp := by
      have : hpD ops us hp (dn (Array.replicate ops.size false)) ops.size = hpD ops us hp (dn (Array.replicate ops.size false)) 0 := by
        unfold hpD
        exact List.map_congr_left fun t _ => lw_skip _ _ (by omega) fun m _ hm _ => hfalse hm
      rw [this, hpD_zero]
    refine any_ok hΘ (hS.less hk) hr.1 hr.2 (store_dst hc.1) rec hU0 (fun ν' a' w' I => hK k .normal _ _ hk hfin ν' a' w' I) ops.size _ ν a _ (by simp) (fun j hj hd => by rw [hfalse hj] at hd; cases hd) ?_ (by rw [e1, e2]; exact I.drawn)
    unfold left
    exact Nat.le_trans List.countP_le_length (by simp)
  · rename_i hd
    have hd : draw = false := by simpa using hd
    subst hd
    refine wp_region_list ?_
    exact ops_ok hΘ (hS.less hk) (fun tm' hp' h' ν' a' w' I' => hK k .normal tm' hp' hk h' ν' a' w' I') hU0 ops.toList tm hp ν a w (store_dst hc.1) h I
theorem code_ok (hm : P.follows .mixedOrders = true) (hΘ : Θ.ok P = true) (hU0 : ∀ q, U0 q → q < w0.heap.size) : ∀ (c : Code) (k0 : Nat) (n : Nat) (K : KontT R) (Q : Exit → Act → World → Prop) (q : Prop), SpecsOk P S k0 → codeB Bt c = true → obs Θ S Bt C c n K q → Fits U0 w0 k0 r K Q →
    ∀ (k : Nat) (tm : List AV) (hp : List AB), k ≤ k0 → (den Θ S Bt C c n K k tm hp).run = some r → ∀ (ν : Nat → Value) (a : Act) (w : World), Inv U0 ν tm hp w0 a w → c.wp P Q a w
  | .skip, k0, n, K, Q, _, _, _, _, hK, k, tm, hp, hk, h, ν, a, w, I => wp_skip (hK k .normal tm hp hk h ν a w I)
  | .exit id, k0, n, K, Q, _, _, _, _, hK, k, tm, hp, hk, h, ν, a, w, I => wp_exit (hK k (.exit id) tm hp hk h ν a w I)
  | .ret, k0, n, K, Q, _, _, _, _, hK, k, tm, hp, hk, h, ν, a, w, I => wp_ret (hK k .ret tm hp hk h ν a w I)
  | .region id ops draw, k0, n, K, Q, q, hS, hc, hl, hK, k, tm, hp, hk, h, ν, a, w, I => by
    replace h : (match C.rb id with
      | some ct => ct.go C.N k tm hp
      | none => regD Θ S Bt id ops draw (behind C id K) k tm hp).run = some r := h
    replace hl : (match C.rb id with
      | some ct => ObD C ct (regD Θ S Bt id ops draw (behind C id K)) ∧ obA C id K q
      | none => obA C id K q) := hl
    split at h
    · rename_i ct he
      rw [he] at hl
      obtain ⟨x, ν', hg, I'⟩ := I.cut hU0 h
      obtain ⟨k', hk', hd⟩ := hl.1 k x r hg
      exact region_ok hm hΘ hU0 hS hc (fits_behind hU0 hl.2 hK) (by omega) hd I'
    · rename_i he
      rw [he] at hl
      exact region_ok hm hΘ hU0 hS hc (fits_behind hU0 hl hK) hk h I
  | .seq x y, k0, n, K, Q, _, hS, hc, hl, hK, k, tm, hp, hk, h, ν, a, w, I => by
    simp only [codeB, Bool.and_eq_true] at hc
    refine wp_seq ?_
    exact code_ok hm hΘ hU0 x k0 n _ _ _ hS hc.1 hl (fits_seq hK fun k' tm' hp' hk' h' ν' a' w' I' => code_ok hm hΘ hU0 y k0 (n + loops x) K Q _ hS hc.2 (obs_last x _ _ _ hl) hK k' tm' hp' hk' h' ν' a' w' I') k tm hp hk h ν a w I
  | .cond c x y, k0, n, K, Q, _, hS, hc, hl, hK, k, tm, hp, hk, h, ν, a, w, I => by
    simp only [codeB, Bool.and_eq_true] at hc
    replace h : (match opnd tm c with
      | .val [.ro .bool b] => Tree.tst ((b : Bool) = true) (den Θ S Bt C x n K k tm hp) (den Θ S Bt C y (n + loops x) K k tm hp)
      | _ => .non).run = some r := h
    split at h
    · rename_i b hb
      have hv := ro_bool (hb ▸ I.opnd c)
      refine wp_cond_split hv (fun ht => ?_) (fun hf => ?_)
      · rcases Tree.tst_run h with ⟨_, h⟩ | ⟨hn, _⟩
        · exact code_ok hm hΘ hU0 x k0 n K Q _ hS hc.1 hl hK k tm hp hk h ν a w I
        · exact absurd ht hn
      · rcases Tree.tst_run h with ⟨hn, _⟩ | ⟨_, h⟩
        · rw [hf] at hn; cases hn
        · exact code_ok hm hΘ hU0 y k0 (n + loops x) K Q _ hS hc.2 (obs_last x _ _ _ hl) hK k tm hp hk h ν a w I
    · cases h
  | .block id b, k0, n, K, Q, q, hS, hc, hl, hK, k, tm, hp, hk, h, ν, a, w, I => wp_block (code_ok hm hΘ hU0 b k0 n _ _ _ hS hc hl (fits_blk hK) k tm hp hk h ν a w I)
  | .loop c, k0, n, K, Q, q, hS, hc, hl, hK, k, tm, hp, hk, h, ν, a, w, I => by
    replace h : (match C.lp n with
      | some ct => ct.go C.N k tm hp
      | none => .non).run = some r := h
    replace hl : (match C.lp n with
      | some ct => ObL C ct (den Θ S Bt C c (n + 1) (KloopT C.N ct K)) ∧ obs Θ S Bt C c (n + 1) (KloopT C.N ct K) q
      | none => obs Θ S Bt C c (n + 1) K q) := hl
    split at h
    · rename_i ct he
      rw [he] at hl
      refine wp_loop_ghost (fun m a w => m ≤ k0 ∧ ∃ tm hp ν, (ct.go C.N m tm hp).run = some r ∧ Inv U0 ν tm hp w0 a w) k ⟨hk, tm, hp, ν, h, I⟩ ?_
      rintro m a w ⟨hm0, tm, hp, ν, hJ, I⟩
      obtain ⟨x, ν', hg, I'⟩ := I.cut hU0 hJ
      obtain ⟨k', hk', hd⟩ := hl.1 m x r hg
      refine code_ok hm hΘ hU0 c k' (n + 1) _ _ _ (hS.less (by omega)) hc hl.2 ?_ k' _ _ (Nat.le_refl _) hd ν' a w I'
      intro k2 e tm2 hp2 hk2 hK2 ν2 a2 w2 I2
      cases e with
      | normal => exact ⟨k2, by omega, by omega, tm2, hp2, ν2, hK2, I2⟩
      | ret => exact hK k2 .ret tm2 hp2 (by omega) hK2 ν2 a2 w2 I2
      | exit id => exact hK k2 (.exit id) tm2 hp2 (by omega) hK2 ν2 a2 w2 I2
    · cases h
  | .label _, k0, n, K, Q, _, _, _, _, hK, k, tm, hp, hk, h, ν, a, w, I => wp_label (hK k .normal tm hp hk h ν a w I)
  | .goto _, _, _, _, _, _, _, _, _, _, _, _, _, _, h, _, _, _, _ => absurd (show (Tree.non : Tree R).run = some r from h) (fun z => Tree.non_run z)
  | .refuse _, _, _, _, _, _, _, _, _, _, _, _, _, _, h, _, _, _, _ => absurd (show (Tree.non : Tree R).run = some r from h) (fun z => Tree.non_run z)
  | .scope b, k0, n, K, Q, q, hS, hc, hl, hK, k, tm, hp, hk, h, ν, a, w, I => wp_scope_straight (code_ok hm hΘ hU0 b k0 n _ _ _ hS hc hl (fits_scope hK) k tm hp hk h ν a w I)
  | .rangeFunc .., _, _, _, _, _, _, _, _, _, _, _, _, _, h, _, _, _, _ => absurd (show (Tree.non : Tree R).run = some r from h) (fun z => Tree.non_run z)
end
end Go.Proofs.YtldcgclbgbhffaaW.Abs

end
section
namespace Go.Proofs.YtldcgclbgbhffaaW.Abs
open Go.RowKit Go.Proofs.YtldcgclbgbhffaaW.PrintWords Go.Proofs.YtldcgclbgbhffaaW.PrintLast Go.Proofs.YtldcgclbgbhffaaW.PrintMore
set_option linter.unusedVariables false
set_option linter.unusedSectionVars false
set_option linter.unusedSimpArgs false

def argV : (ps : List Ty) → TT ps → List AV
  | [], _ => []
  | t :: ts, (x, y) => .val (expl t x) :: argV ts y
def resT (Θ : Tab) (tm : List AV) (hp : List AB) : (rs : List Ty) → List ResultVar → Option (TT rs)
  | [], [] => some ()
  | t :: ts, .tmp q :: os => match opnd tm (.tmp q) with
    | .val cs => match toT hp t cs with
      | some (x, []) => match resT Θ tm hp ts os with
        | some xs => some (x, xs)
        | none => none
      | _ => none
    | _ => none
  | t :: ts, .cell q u :: os => match opnd tm (.tmp q), ti Θ u with
    | .val [.ptr j 0], some i => match hp[j]? with
      | some (.cells _ cs) => if i.size = cs.length then (match toT hp t cs with
        | some (x, []) => match resT Θ tm hp ts os with
          | some xs => some (x, xs)
          | none => none
        | _ => none) else none
      | _ => none
    | _, _ => none
  | _, _ => none
def K0 (Θ : Tab) (rs : List Ty) (vs : List ResultVar) : KontT (TT rs) := fun k e tm hp => match e with
  | .exit _ => .non
  | _ => ofO (resT Θ tm hp rs vs)
def tm0 (n : Nat) (ps : List Ty) (x : TT ps) : List AV := argV ps x ++ List.replicate (n - ps.length) .junk
section
variable {P : Program} {Θ : Tab} {S : FuncId → Option FSpec} {U0 : Nat → Prop} {ν : Nat → Value} {tm : List AV} {hp : List AB} {w0 w : World} {a : Act}
theorem argV_len : ∀ {ps : List Ty} {x : TT ps}, (argV ps x).length = ps.length
  | [], _ => rfl
  | t :: ts, x => congrArg (· + 1) argV_len
theorem argV_rel {ν : Nat → Value} {L : Nat → Prop} : ∀ {ps : List Ty} {x : TT ps} {vs : List Value}, ArgR (Un U0 ν L) w ps x vs → vs.length = ps.length ∧ ∀ (i : Nat) (y : AV), (argV ps x)[i]? = some y → ∃ v : Value, vs[i]? = some v ∧ RelV U0 ν L w y v
  | [], x, vs, h => by rw [show vs = [] from h]; exact ⟨rfl, fun i y hy => by simp [argV] at hy⟩
  | t :: ts, x, v :: vs, ⟨⟨cs, h1, h2⟩, h3⟩ => by
    obtain ⟨q1, q2⟩ := argV_rel h3
    refine ⟨congrArg (· + 1) q1, fun i y hy => ?_⟩
    cases i with
    | zero =>
      simp only [argV, List.getElem?_cons_zero] at hy
      injection hy with hy
      subst hy
      exact ⟨v, rfl, cs, h1, expl_rel t x.1 h2⟩
    | succ i =>
      simp only [argV, List.getElem?_cons_succ] at hy
      exact q2 i y hy
  | _ :: _, _, [], h => h.elim
def resItem (tmps : Array Value) : ResultVar → Sem Value
  | .tmp t => pure (tmps.getD t undef)
  | .cell a t => do loadVar t (← asAddr (tmps.getD a undef))
theorem res_told (I : Inv U0 ν tm hp w0 a w) (hU : ∀ k, U0 k → k < w0.heap.size) {t : Ty} {cs : List AC} {x : T t} {vs : List Value} (h : toT hp t cs = some (x, [])) (hr : All2 (RelC U0 ν (lv hp) w) cs vs) : Rd U0 w t x vs := by
  obtain ⟨v1, v2, e1, e2, e3, _⟩ := toT_rel I (U := U0) (fun k _ h => .inl h) (fun j e t xs hj hb k hk hu => by
    have := (I.lt ⟨_, hb, rfl⟩ hk).2
    have := hU k hu
    omega) h hr
  have : v2 = [] := by
    cases v2 with
    | nil => rfl
    | cons _ _ => exact e3.elim
  subst this
  rw [List.append_nil] at e1
  exact e1 ▸ e2
theorem resT_rel (hΘ : Θ.ok P = true) (I : Inv U0 ν tm hp w0 a w) (hU : ∀ k, U0 k → k < w0.heap.size) : ∀ {rs : List Ty} {os : List ResultVar} {x : TT rs}, resT Θ tm hp rs os = some x → ∃ us, (os.mapM (resItem a.tmps)).run P w = .ok us w ∧ ResL U0 w rs x us
  | [], [], x, h => ⟨[], by simp, rfl⟩
  | t :: ts, .tmp q :: os, x, h => by
    simp only [resT] at h
    split at h
    · rename_i cs hc
      split at h
      · rename_i y hy
        split at h
        · rename_i ys hys
          injection h with h
          subst h
          obtain ⟨vs, h1, h2⟩ := hc ▸ I.opnd (.tmp q)
          obtain ⟨us, e1, e2⟩ := resT_rel hΘ I hU hys
          refine ⟨mkV vs :: us, ?_, ⟨vs, rfl, res_told I hU hy h2⟩, e2⟩
          have h1 : a.tmps.getD q undef = mkV vs := h1
          simp [List.mapM_cons, resItem, h1, e1]
        · cases h
      · cases h
    · cases h
  | t :: ts, .cell q u :: os, x, h => by
    simp only [resT] at h
    split at h
    · rename_i j i hj hi
      split at h
      · rename_i e cs hb
        split at h
        · rename_i hsz
          split at h
          · rename_i y hy
            split at h
            · rename_i ys hys
              injection h with h
              subst h
              obtain ⟨hjl, g, hν, hv⟩ := val_one (hj ▸ I.opnd (.tmp q))
              obtain ⟨g', vs, h1, h2, h3, h4, h5⟩ := I.cells hb
              rw [hν] at h1
              injection h1 with h1
              injection h1 with h1
              injection h1 with h1
              subst h1
              obtain ⟨f, d, hf, hd, hs, _, _, ha, _⟩ := kind_of hΘ hi
              have hr := run_loadAt (P := P) (w := w) (ad := ⟨g, 0, none⟩) (vs := vs) hf hd hs ha (by rw [← h4.len, hsz]) (fun z hz => by rw [add_at, blk_cell h3]; simp)
              obtain ⟨us, e1, e2⟩ := resT_rel hΘ I hU hys
              refine ⟨mkV vs :: us, ?_, ⟨vs, rfl, res_told I hU hy h4⟩, e2⟩
              have hv : a.tmps.getD q undef = .pointer (some ⟨g, 0, none⟩) := hv
              have hr' : (loadVar u ⟨g, 0, none⟩).run P w = .ok (mkV vs) w := by
                have := hr
                unfold Instr.loadAt Instr.sureAddr at this
                simpa using this
              simp [List.mapM_cons, resItem, hv, e1, asAddr, hr']
            · cases h
          · cases h
        · cases h
      · cases h
    · cases h
  | [], _ :: _, x, h => by simp [resT] at h
  | _ :: _, [], x, h => by simp [resT] at h
theorem run_results {fn : Func} {us : List Value} (h : (fn.results.toList.mapM (resItem a.tmps)).run P w = .ok us w) : (results fn a.tmps).run P w = .ok (mkR us) w := by
  have e : results fn a.tmps = (do
    let vs ← fn.results.mapM (resItem a.tmps)
    pure (if h : vs.size = 1 then vs[0] else .tuple vs)) := by
    unfold results
    congr 1
  rw [e, Array.mapM_eq_mapM_toList]
  simp only [bind_map_left, Sem.run_bind, h, Result.andThen_ok, Sem.run_pure]
  congr 1
  match us with
  | [] => rfl
  | [u] => rfl
  | u :: v :: l => rfl
theorem fn_ok {g : FuncId} {fn : Func} {c : Code} {s : FSpec} {k k1 : Nat} {Bt : Nat → List Nat} {C : Cuts (TT s.rs)} (hm : P.follows .mixedOrders = true) (hΘ : Θ.ok P = true) (hS : SpecsOk P S k) (hf : P.funcs[g]? = some fn) (hb : fn.body = some c) (hc : codeB Bt c = true) (hn : s.ps.length ≤ fn.ntmps)
    (hl : obs Θ S Bt C c 0 (K0 Θ s.rs fn.results.toList) True) (hd : ∀ x r, s.f k1 x = some r → (den Θ S Bt C c 0 (K0 Θ s.rs fn.results.toList) k (tm0 fn.ntmps s.ps x) (List.replicate fn.ntmps .gone)).run = some r) : FnOk P g s k1 := by
  intro x r hr U w vs hU harg
  have hnl : ∀ j, ¬ lv (List.replicate fn.ntmps AB.gone) j := fun j ⟨b, h1, h2⟩ => by
    rw [List.getElem?_replicate] at h1
    split at h1
    · injection h1 with h1; subst h1; simp [isGone] at h2
    · cases h1
  have hun : ∀ q, Un U (fun _ => undef) (lv (List.replicate fn.ntmps AB.gone)) q → U q := fun q hq => hq.elim id fun ⟨j, hj, _⟩ => absurd hj (hnl j)
  have harg' : ArgR (Un U (fun _ => undef) (lv (List.replicate fn.ntmps AB.gone))) w s.ps x vs := by
    have key : ∀ {ps : List Ty} {x : TT ps} {vs : List Value}, ArgR U w ps x vs → ArgR (Un U (fun _ => undef) (lv (List.replicate fn.ntmps AB.gone))) w ps x vs := by
      intro ps
      induction ps with
      | nil => intro x vs h; exact h
      | cons t ts ih =>
        intro x vs h
        cases vs with
        | nil => exact h.elim
        | cons v vs =>
          obtain ⟨⟨cs, h1, h2⟩, h3⟩ := h
          exact ⟨⟨cs, h1, h2.move ⟨Nat.le_refl _, fun _ _ _ => rfl, fun q _ z => hun q z⟩⟩, ih h3⟩
    exact key harg
  obtain ⟨hlen, hrel⟩ := argV_rel harg'
  refine calls_of_wp hf hb ?_
  refine code_ok hm hΘ (w0 := w) hU c k 0 _ _ _ hS hc hl ?_ k _ _ (Nat.le_refl _) (hd x r hr) (fun _ => undef) _ w ?_
  · intro k' e tm hp hk' hK ν a w' I
    have fin : (ofO (resT Θ tm hp s.rs fn.results.toList)).run = some r → a.defers = [] ∧ ∃ v, (results fn a.tmps).run P w' = .ok v w' ∧ ∃ v', Ending.returned v = .returned v' ∧ ResR U w' s.rs r v' ∧ Below w.heap.size w w' := by
      intro h
      rw [ofO_run] at h
      obtain ⟨us, e1, e2⟩ := resT_rel hΘ I hU h
      exact ⟨I.defers, _, run_results e1, _, rfl, ⟨us, rfl, e2⟩, I.fr⟩
    cases e with
    | normal => exact fin hK
    | ret => exact fin hK
    | exit id => exact (Tree.non_run hK).elim
  · refine ⟨by simp [tm0, argV_len, hlen], fun i y hy => ?_, fun j b h1 h2 => absurd ⟨b, h1, h2⟩ (hnl j), fun i j _ hi => absurd hi (hnl i), Below.refl _ _, rfl⟩
    unfold tm0 at hy
    rw [List.getElem?_append] at hy
    split at hy
    · rename_i hi
      obtain ⟨v, hv, hR⟩ := hrel i y hy
      have : (vs.toArray ++ Array.replicate (fn.ntmps - vs.toArray.size) undef).getD i undef = v := by
        have hlt := (List.getElem?_eq_some_iff.1 hv).1
        rw [Array.getD_eq_getD_getElem?, Array.getElem?_append, if_pos (by simpa using hlt)]
        simp [hv]
      show RelV _ _ _ _ _ ((vs.toArray ++ Array.replicate (fn.ntmps - vs.toArray.size) undef).getD i undef)
      rw [this]
      exact hR
    · rw [List.getElem?_replicate] at hy
      split at hy
      · injection hy with hy; subst hy; trivial
      · cases hy
end
def LeM {A R : Type} (m : A → R) (x : Option A) (y : Option R) : Prop := ∀ a, x = some a → y = some (m a)
def FOk (P : Program) (g : FuncId) (s : FSpec) : Prop := bodied P g = true ∧ ∀ k, FnOk P g s k
def look : List (FuncId × FSpec) → FuncId → Option FSpec
  | [], _ => none
  | (u, s) :: l, g => if g = u then some s else look l g
def Oks (P : Program) : List (FuncId × FSpec) → Prop
  | [] => True
  | p :: l => FOk P p.1 p.2 ∧ Oks P l
def blook : List (Nat × List Nat) → Nat → List Nat
  | [], _ => []
  | (u, b) :: l, i => if i = u then b else blook l i
def LeT {A R : Type} (m : A → R) (x : Option A) (y : Tree R) : Prop := LeM m x y.run
section
variable {A B C R : Type} {m : A → R}
theorem LeT.call {x : Option B} {q : B → C} {y : Option C} {F : B → Option A} {G : C → Tree R} (hy : x.map q = y) (h : ∀ t, x = some t → LeT m (F t) (G (q t))) : LeT m (x.bind F) (.cll y G) := by
  subst hy
  intro a ha
  cases hx : x with
  | none => rw [hx] at ha; cases ha
  | some t => rw [hx] at ha; exact h t hx a ha
theorem LeT.again {x : Option B} {t : B} {q : B → C} {y : Option C} {X : Option A} {G : C → Tree R} (hx : x = some t) (hy : x.map q = y) (h : LeT m X (G (q t))) : LeT m X (.cll y G) := by
  intro a ha
  subst hy hx
  exact h a ha
theorem LeT.ite {c : Prop} [Decidable c] {X Y : Option A} {Z : Tree R} (h1 : c → LeT m X Z) (h2 : ¬ c → LeT m Y Z) : LeT m (if c then X else Y) Z := by
  by_cases h : c
  · rw [if_pos h]; exact h1 h
  · rw [if_neg h]; exact h2 h
theorem LeT.tstp {c : Prop} [d : Decidable c] {X : Option A} {Y Z : Tree R} (h : c) (k : LeT m X Y) : LeT m X (.tst c Y Z) := fun a ha => by
  show (if c then Y.run else Z.run) = _
  rw [if_pos h]; exact k a ha
theorem LeT.tstn {c : Prop} [d : Decidable c] {X : Option A} {Y Z : Tree R} (h : ¬ c) (k : LeT m X Z) : LeT m X (.tst c Y Z) := fun a ha => by
  show (if c then Y.run else Z.run) = _
  rw [if_neg h]; exact k a ha
theorem LeT.now {a : A} {r : R} (h : r = m a) : LeT m (some a) (.done r) := fun b hb => by injection hb with hb; subst hb; exact congrArg some h
theorem LeT.none {y : Tree R} : LeT m Option.none y := fun b hb => by cases hb
theorem LeT.tail {x : Option A} {y : Option R} (h : x.map m = y) : LeT m x (.cll y .done) := fun a ha => by
  subst h ha
  rfl
end
section
variable {R A : Type} {m : A → R} {N : Nat} {sl : List Slot} {F : Nat → TS sl → Option A} {D : Nat → List AV → List AB → Tree R}
theorem ob_loop (h0 : ∀ x, F 0 x = none) (h : ∀ k x, LeT m (F (k + 1) x) (fL (cutT N sl x) fun tm => fH (cutH N sl x) fun hp => D k tm hp)) : ∀ k x r, (F k x).map m = some r → ∃ k', k' < k ∧ (D k' (cutT N sl x) (cutH N sl x)).run = some r
  | 0, x, r, hr => by rw [h0 x] at hr; cases hr
  | k + 1, x, r, hr => by
    obtain ⟨a, ha, rfl⟩ := Option.map_eq_some_iff.1 hr
    have := h k x a ha
    rw [fL_eq, fH_eq] at this
    exact ⟨k, Nat.lt_succ_self k, this⟩
theorem ob_join1 (h0 : ∀ x, F 0 x = none) (h : ∀ k x, LeT m (F (k + 1) x) (fL (cutT N sl x) fun tm => fH (cutH N sl x) fun hp => D k tm hp)) : ∀ k x r, (F k x).map m = some r → ∃ k', k' ≤ k ∧ (D k' (cutT N sl x) (cutH N sl x)).run = some r := fun k x r hr => by
  obtain ⟨k', h1, h2⟩ := ob_loop h0 h k x r hr
  exact ⟨k', Nat.le_of_lt h1, h2⟩
end
def noCuts {R : Type} : Cuts R := ⟨0, fun _ => none, fun _ => none, fun _ => none⟩
def OksK (P : Program) (k0 : Nat) : List (FuncId × FSpec) → Prop
  | [] => True
  | p :: l => (bodied P p.1 = true ∧ ∀ k, k ≤ k0 → FnOk P p.1 p.2 k) ∧ OksK P k0 l
theorem Oks.upTo {P : Program} {k0 : Nat} : ∀ {l : List (FuncId × FSpec)}, Oks P l → OksK P k0 l
  | [], _ => trivial
  | _ :: l, h => ⟨⟨h.1.1, fun k _ => h.1.2 k⟩, Oks.upTo (l := l) h.2⟩
theorem look_okK {P : Program} {k0 : Nat} : ∀ {l : List (FuncId × FSpec)}, OksK P k0 l → SpecsOk P (look l) k0
  | [], _, g, s, hs => by simp [look] at hs
  | (u, t) :: l, h, g, s, hs => by
    unfold look at hs
    split at hs
    · rename_i e; injection hs with hs; subst hs; subst e; exact h.1
    · exact look_okK (l := l) h.2 g s hs
theorem fn_ofK {P : Program} {Θ : Tab} {l : List (FuncId × FSpec)} {g : FuncId} {fn : Func} {c : Code} {s : FSpec} {Bt : Nat → List Nat} {C : Cuts (TT s.rs)} {A : Type} {m : A → TT s.rs} {k k1 : Nat} {F : TT s.ps → Option A} (hm : P.follows .mixedOrders = true) (hΘ : Θ.ok P = true) (ho : OksK P k l) (hf : P.funcs[g]? = some fn) (hb : fn.body = some c) (hc : codeB Bt c = true) (hn : s.ps.length ≤ fn.ntmps)
    (hF : ∀ x, s.f k1 x = (F x).map m) (hl : obs Θ (look l) Bt C c 0 (K0 Θ s.rs fn.results.toList) True) (hd : ∀ x, LeT m (F x) (fL (tm0 fn.ntmps s.ps x) fun tm => fH (List.replicate fn.ntmps .gone) fun hp => den Θ (look l) Bt C c 0 (K0 Θ s.rs fn.results.toList) k tm hp)) : FnOk P g s k1 :=
  fn_ok hm hΘ (look_okK ho) hf hb hc hn hl fun x r hr => by
    rw [hF] at hr
    obtain ⟨a, ha, rfl⟩ := Option.map_eq_some_iff.1 hr
    have := hd x a ha
    rw [fL_eq, fH_eq] at this
    exact this
theorem fn_of {P : Program} {Θ : Tab} {l : List (FuncId × FSpec)} {g : FuncId} {fn : Func} {c : Code} {s : FSpec} {Bt : Nat → List Nat} {C : Cuts (TT s.rs)} {A : Type} {m : A → TT s.rs} {F : Nat → TT s.ps → Option A} (hm : P.follows .mixedOrders = true) (hΘ : Θ.ok P = true) (ho : Oks P l) (hf : P.funcs[g]? = some fn) (hb : fn.body = some c) (hc : codeB Bt c = true) (hn : s.ps.length ≤ fn.ntmps) (hg : bodied P g = true)
    (hF : ∀ k x, s.f k x = (F k x).map m) (hl : obs Θ (look l) Bt C c 0 (K0 Θ s.rs fn.results.toList) True) (hd : ∀ k x, LeT m (F k x) (fL (tm0 fn.ntmps s.ps x) fun tm => fH (List.replicate fn.ntmps .gone) fun hp => den Θ (look l) Bt C c 0 (K0 Θ s.rs fn.results.toList) k tm hp)) : FOk P g s :=
  ⟨hg, fun k => fn_ofK (k1 := k) hm hΘ ho.upTo hf hb hc hn (hF k) hl (hd k)⟩
attribute [irreducible] LeT
end Go.Proofs.YtldcgclbgbhffaaW.Abs

end
section
namespace Go.Proofs.YtldcgclbgbhffaaW.Abs
open Go.RowKit Go.Proofs.YtldcgclbgbhffaaW.PrintWords Go.Proofs.YtldcgclbgbhffaaW.PrintLast Go.Proofs.YtldcgclbgbhffaaW.PrintMore
set_option linter.unusedVariables false

theorem tdiv_nn {x c : Int} (h : 0 ≤ x) : Int.tdiv x c = x / c := Int.tdiv_eq_ediv_of_nonneg h
theorem tmod_nn {x c : Int} (h : 0 ≤ x) : Int.tmod x c = x % c := Int.tmod_eq_emod_of_nonneg h
theorem u64_id {y : Int} (h : 0 ≤ y) (h1 : y < 18446744073709551616) : IntKind.u64.wrap y = y := by rw [IntKind.wrap_u64]; omega
theorem i64_id {y : Int} (h : -9223372036854775808 ≤ y) (h1 : y < 9223372036854775808) : wrap64 y = y := by unfold wrap64; omega
section
variable {A B C R : Type} {m : A → R}
theorem by_ {c : Prop} (h : c := by first
  | assumption
  | exact rfl
  | (simp [wr, *]; done)
  | (simp_all [wr]; done)
  | (simp_all [wr, rd, dflt]; done)
  | (dsimp only; simp only [List.length_append, List.length_cons, List.length_nil, List.length_set, List.length_replicate, List.length_take, List.length_drop] at *; omega)
  | (simp (disch := first | omega | (simp only [mx, mn]; (repeat' split) <;> omega) | fail) only [wr, shr, shl, tdiv_nn, tmod_nn, u64_id, i64_id, IntKind.wrap_u8, rd, dflt, IntKind.bits, decide_eq_true_eq, decide_eq_false_iff_not, beq_iff_eq, bne_iff_ne] at *; first | done | omega | (simp only [List.length_append, List.length_cons, List.length_nil, List.length_set, List.length_replicate, List.length_take, List.length_drop] at *; omega))
  | (simp (disch := first | omega | (simp only [mx, mn]; (repeat' split) <;> omega) | fail) [wr, shr, shl, tdiv_nn, tmod_nn, u64_id, i64_id, IntKind.wrap_u8, rd, dflt, IntKind.bits, *]; done)
  | (simp_all (disch := first | omega | (simp only [mx, mn]; (repeat' split) <;> omega) | fail) [wr, shr, shl, tdiv_nn, tmod_nn, u64_id, i64_id, IntKind.wrap_u8, rd, dflt, IntKind.bits]; done)
  | (simp only [wr, wrap64, mn, mx] at *; (repeat' split) <;> omega)
  | fail) : c := h
theorem LeT.p {c : Prop} [d : Decidable c] {X : Option A} {Y Z : Tree R} (h : c) (k : LeT m X Y) : LeT m X (.tst c Y Z) := LeT.tstp h k
theorem LeT.n {c : Prop} [d : Decidable c] {X : Option A} {Y Z : Tree R} (h : ¬ c) (k : LeT m X Z) : LeT m X (.tst c Y Z) := LeT.tstn h k
theorem eqs {D : Type} {x y : Option B} {q : B → D} (h : x = y) : x.map q = y.map q := congrArg _ h
theorem LeT.t {x : Option A} {y : Option R} (h : x.map m = y := by first | exact rfl | exact eqs (if_pos by_).symm | (refine eqs ?_; congr 1 <;> exact by_) | (refine eqs (Eq.trans ?_ (if_pos by_).symm); congr 1 <;> exact by_)) : LeT m x (.cll y .done) := LeT.tail h
theorem LeT.c {x : Option B} {q : B → C} {y : Option C} {F : B → Option A} {G : C → Tree R} (h : ∀ t, x = some t → LeT m (F t) (G (q t))) (hy : x.map q = y := by first | exact rfl | (rw [← Int.zero_sub]; exact rfl) | (refine eqs ?_; congr 1 <;> exact by_)) : LeT m (x.bind F) (.cll y G) := LeT.call hy h
theorem LeT.sb {a : B} {F : B → Option A} {y : Tree R} (h : LeT m (F a) y) : LeT m ((some a).bind F) y := h
theorem LeT.d {a : A} {r : R} (h : r = m a := by first | exact rfl | (simp [wr, *]; done) | (refine congrArg _ ?_; exact by_)) : LeT m (some a) (.done r) := LeT.now h
end
theorem go {p : Prop} (h : p := by
  (conv => arg 3; whnf)
  repeat' (first | exact LeT.none | exact LeT.d | exact LeT.t | (with_reducible refine LeT.sb ?_) | (refine LeT.c fun t ht => ?_; conv => arg 3; whnf) | (refine LeT.p by_ ?_; conv => arg 3; whnf) | (refine LeT.n by_ ?_; conv => arg 3; whnf) | (apply LeT.again; (focus assumption); (focus exact rfl); conv => arg 3; whnf) | refine LeT.ite (fun h => ?_) (fun h => ?_))) : p := h
theorem LeT.it {A R : Type} {m : A → R} {c : Prop} {X Y : Option A} {Z U : Tree R} [d : Decidable c] [d1 : Decidable c] (h1 : c → LeT m X Z) (h2 : ¬ c → LeT m Y U) : LeT m (if c then X else Y) (.tst c Z U) := LeT.ite (fun h => LeT.p h (h1 h)) (fun h => LeT.n h (h2 h))
theorem LeT.ip {A R : Type} {m : A → R} {c : Prop} {X Y : Option A} {Z : Tree R} [d : Decidable c] (h : c) (k : LeT m X Z) : LeT m (if c then X else Y) Z := by rw [if_pos h]; exact k
theorem LeT.ir {A R : Type} {m : A → R} {c : Prop} {X Y : Option A} {Z : Tree R} [d : Decidable c] (h : ¬ c) (k : LeT m Y Z) : LeT m (if c then X else Y) Z := by rw [if_neg h]; exact k
theorem goq {p : Prop} (h : p := by
  (conv => arg 3; whnf)
  repeat' (first | exact LeT.none | exact LeT.now rfl | exact LeT.tail rfl | (with_reducible refine LeT.sb ?_) | (refine LeT.call (by first | exact rfl | (rw [← Int.zero_sub]; exact rfl)) fun t ht => ?_; conv => arg 3; whnf) | (refine LeT.p (by first | assumption | exact rfl | (simp [wr, *]; done) | fail) ?_; conv => arg 3; whnf) | (refine LeT.n (by first | assumption | exact rfl | (simp [wr, *]; done) | fail) ?_; conv => arg 3; whnf) | (apply LeT.again; (focus assumption); (focus exact rfl); conv => arg 3; whnf) | (refine LeT.it (fun h => ?_) (fun h => ?_) <;> (conv => arg 3; whnf)) | (refine LeT.ip (by first | assumption | exact rfl | (simp [wr, *]; done) | fail) ?_) | (refine LeT.ir (by first | assumption | exact rfl | (simp [wr, *]; done) | fail) ?_) | refine LeT.ite (fun h => ?_) (fun h => ?_) | (refine LeT.p (by first | (simp_all [wr]; done) | fail) ?_; conv => arg 3; whnf) | (refine LeT.n (by first | (simp_all [wr]; done) | fail) ?_; conv => arg 3; whnf))) : p := h
end Go.Proofs.YtldcgclbgbhffaaW.Abs

end
section
namespace Go.Proofs.YtldcgclbgbhffaaW.Abs
open Go.RowKit Go.Proofs.YtldcgclbgbhffaaW.PrintWords Go.Proofs.YtldcgclbgbhffaaW.PrintLast Go.Proofs.YtldcgclbgbhffaaW.PrintMore
set_option linter.unusedVariables false

section
variable {U : Nat → Prop} {w w' : World} {e : TypeId} {k : IntKind}
theorem row_arg {xs : List Int} {cs : List Value} (h : Rd U w (.row e (.int k)) xs cs) : ∃ A c, cs = [.slice A xs.length c] ∧ Kd.C (Kd.int k) w A xs.length xs ∧ xs.length ≤ c := by
  obtain ⟨A, c, h1, h2, h3⟩ := h.K
  exact ⟨A, c, h1, h3, h2⟩
theorem row_res {n : Nat} {ok : Nat → Prop} {xs : List Int} {v : Value} (hU : ∀ q, U q → q < n) (h : Kd.R (Kd.int k) e w' n ok v xs) : Rd U w' (.row e (.int k)) xs [v] := by
  obtain ⟨A, c, rfl⟩ := Kd.R_slice h
  have hr := Kd.R_reads' h
  have hW : ∀ W : World, w'.heap.size ≤ W.heap.size → (∀ q, q < w'.heap.size → ¬ U q → W.heap[q]? = w'.heap[q]?) → Kd.C (Kd.int k) W A xs.length xs := fun W _ hb =>
    (Kd.R_reads' (Kd.R_move (Kd.R_bound h) fun q hq => hb q hq.2.2.1 fun hu => by have := hU q hu; have := hq.2.1; omega)).2.2
  have hC := hr.2.2
  refine ⟨A, c, rfl, hr.2.1, hC.2.1, fun hn => ?_⟩
  obtain ⟨ad, ha, hcell⟩ := hC.2.2 hn
  refine ⟨ad, ha, fun j p hp => ⟨[.int k p], rfl, fun i u hu W hs hb => ?_⟩⟩
  obtain ⟨ad', ha', hcell'⟩ := (hW W hs hb).2.2 hn
  obtain rfl : ad = ad' := Option.some.inj (ha.symm.trans ha')
  obtain ⟨c', hc1, hc2, hc3⟩ := hcell' j p hp
  have hc2 : c' = [.int k p] := hc2
  subst hc2
  exact hc3 i u hu
theorem row_rd {A : Option Addr} {c : Nat} {xs : List Int} (hc : Kd.C (Kd.int k) w A xs.length xs) (hl : xs.length ≤ c) : Rd (fun _ => False) w (.row e (.int k)) xs [.slice A xs.length c] := by
  refine ⟨A, c, rfl, hl, hc.2.1, fun hn => ?_⟩
  obtain ⟨ad, ha, hcell⟩ := hc.2.2 hn
  refine ⟨ad, ha, fun j p hp => ⟨[.int k p], rfl, fun i u hu W hs hb => ?_⟩⟩
  obtain ⟨c', hc1, hc2, hc3⟩ := hcell j p hp
  have hc2 : c' = [.int k p] := hc2
  subst hc2
  have h : w.cell? (ad.add (j * (Ty.int k).size + i)) = some u := hc3 i u hu
  have hlt := World.block_lt_of_cell? w _ h
  show W.cell? (ad.add (j * (Ty.int k).size + i)) = some u
  rw [← h]
  unfold World.cell?
  rw [hb _ hlt (fun q => q)]
theorem res_bool {r : Bool} {v : Value} (h : ResR U w [.bool] (r, ()) v) : v = .bool r := by
  obtain ⟨us, rfl, h⟩ := h
  match us, h with
  | [u], ⟨⟨cs, h1, h2⟩, _⟩ =>
    have h2 : cs = [.bool r] := h2
    subst h2
    exact h1
theorem ArgR.cons {t : Ty} {ts : List Ty} {x : TT (t :: ts)} {vs : List Value} (h : ArgR U w (t :: ts) x vs) : ∃ cs vs', vs = mkV cs :: vs' ∧ Rd U w t x.1 cs ∧ ArgR U w ts x.2 vs' := by
  cases vs with
  | nil => exact h.elim
  | cons v vs => obtain ⟨⟨cs, rfl, h1⟩, h2⟩ := h; exact ⟨cs, vs, rfl, h1, h2⟩
end
end Go.Proofs.YtldcgclbgbhffaaW.Abs

end
