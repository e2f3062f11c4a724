import PyProof.Rows.All
import Wide.All
import OpenK.AllK
import Wide.FinOn
import HandS.ForMost
import HandS.Strs
import HandS.SetFor
import HandS.Deep
import HandS.Style
import HandS.Conv
import HandS.Codes
import KE.SortData
import PySem.Challenge.RW_whenmeet_k37_whole_pairs_answer_all
set_option Elab.async false
set_option linter.all false
set_option maxRecDepth 100000
set_option maxHeartbeats 4000000
/-! The mathematics of walks, soonest comings and best pairs: plain Lean, no program in sight. -/
namespace WM
/-- a meeting, or a step: moment, place, place -/
abbrev Stp := Int × Nat × Nat
def IsStp (ms : List Stp) (t : Int) (u v : Nat) : Prop := (t, u, v) ∈ ms ∨ (t, v, u) ∈ ms
/-- a walk from u, leaving at l, to v, coming at c -/
inductive Wk (ms : List Stp) (r : Int) : Nat → Int → Nat → Int → Prop
  | one {t : Int} {u v : Nat} : IsStp ms t u v → Wk ms r u t v t
  | snoc {u : Nat} {l : Int} {v : Nat} {c t : Int} {w : Nat} : Wk ms r u l v c → IsStp ms t v w → c + r ≤ t → Wk ms r u l w t
theorem Wk.cons {ms : List Stp} {r : Int} {u v w : Nat} {t l c : Int} (h : IsStp ms t u v) (hl : t + r ≤ l) (k : Wk ms r v l w c) : Wk ms r u t w c := by
  induction k with
  | one hs => exact .snoc (.one h) hs hl
  | snoc _ hs hc ih => exact .snoc (ih h hl) hs hc
theorem Wk.le {ms : List Stp} {r : Int} {u v : Nat} {l c : Int} (hr : 0 ≤ r) (k : Wk ms r u l v c) : l ≤ c := by
  induction k with
  | one _ => exact Int.le_refl _
  | snoc _ _ hc ih => omega
theorem Wk.leave {ms : List Stp} {r : Int} {u v : Nat} {l c : Int} (k : Wk ms r u l v c) : ∃ x ∈ ms, x.1 = l := by
  induction k with
  | one h => rcases h with h | h <;> exact ⟨_, h, rfl⟩
  | snoc _ _ _ ih => exact ih
theorem Wk.rev {ms ms' : List Stp} {r : Int} {u v : Nat} {l c : Int} (hs : ∀ t a b, IsStp ms t a b → IsStp ms' (-t) b a) (k : Wk ms r u l v c) : Wk ms' r v (-c) u (-l) := by
  induction k with
  | one h => exact .one (hs _ _ _ h)
  | snoc _ h hc ih => exact .cons (hs _ _ _ h) (by omega) ih
/-- the soonest coming at the goal of walks that leave at x or later -/
def Soon (ms : List Stp) (r : Int) (st goal : Nat) (x : Int) : Option Int → Prop
  | some t => (∃ l, x ≤ l ∧ Wk ms r st l goal t) ∧ ∀ l c, x ≤ l → Wk ms r st l goal c → t ≤ c
  | none => ∀ l c, x ≤ l → ¬ Wk ms r st l goal c
theorem Soon.inj {ms : List Stp} {r : Int} {st goal : Nat} {x : Int} : ∀ {o o' : Option Int}, Soon ms r st goal x o → Soon ms r st goal x o' → o = o'
  | some t, some t', ⟨⟨l, hl, k⟩, m⟩, ⟨⟨l', hl', k'⟩, m'⟩ => by
    have h1 := m l' t' hl' k'
    have h2 := m' l t hl k
    rw [show t = t' by omega]
  | some t, none, ⟨⟨l, hl, k⟩, _⟩, h => absurd k (h l t hl)
  | none, some t, h, ⟨⟨l, hl, k⟩, _⟩ => absurd k (h l t hl)
  | none, none, _, _ => rfl
theorem Soon.shift {ms : List Stp} {r : Int} {st goal : Nat} {x y : Int} (hxy : x ≤ y) (hno : ∀ p ∈ ms, x ≤ p.1 → y ≤ p.1) : ∀ {o : Option Int}, Soon ms r st goal y o → Soon ms r st goal x o
  | some t, ⟨⟨l, hl, k⟩, m⟩ => ⟨⟨l, by omega, k⟩, fun l' c hl' k' => by
      obtain ⟨p, hp, e⟩ := k'.leave
      exact m l' c (by rw [← e]; exact hno p hp (by rw [e]; exact hl')) k'⟩
  | none, h => fun l' c hl' k' => by
      obtain ⟨p, hp, e⟩ := k'.leave
      exact h l' c (by rw [← e]; exact hno p hp (by rw [e]; exact hl')) k'

/-! ### clocks -/
def clk (cl : List (Option Int)) (v : Nat) : Option Int := (cl[v]?).join
def sooner (st : Nat) (cl : List (Option Int)) (s : Stp) : Bool :=
  if s.2.2 = st then false else match clk cl s.2.2 with
    | none => true
    | some c => decide (s.1 < c)
def canGo (r first : Int) (st : Nat) (cl : List (Option Int)) (s : Stp) : Bool :=
  if s.2.1 = st then decide (first ≤ s.1) else match clk cl s.2.1 with
    | none => false
    | some c => decide (c + r ≤ s.1)
def hit (r first : Int) (st : Nat) (cl : List (Option Int)) (s : Stp) : Bool := sooner st cl s && canGo r first st cl s
def stepF (r first : Int) (st : Nat) (cl : List (Option Int)) (s : Stp) : List (Option Int) := if hit r first st cl s = true then cl.set s.2.2 (some s.1) else cl
theorem clk_set_same {cl : List (Option Int)} {v : Nat} {x : Option Int} (h : v < cl.length) : clk (cl.set v x) v = x := by
  unfold clk; rw [List.getElem?_set_self h]; rfl
theorem clk_set_ne {cl : List (Option Int)} {v w : Nat} {x : Option Int} (h : v ≠ w) : clk (cl.set v x) w = clk cl w := by
  unfold clk; rw [List.getElem?_set_ne h]
/-- what stays true of the clocks -/
structure Base (ms : List Stp) (r : Int) (many st : Nat) (first : Int) (cl : List (Option Int)) : Prop where
  len : cl.length = many
  at0 : clk cl st = some first
  sound : ∀ v, v ≠ st → ∀ t, clk cl v = some t → ∃ l, first ≤ l ∧ Wk ms r st l v t
theorem hit_true {r first : Int} {st : Nat} {cl : List (Option Int)} {s : Stp} (h : hit r first st cl s = true) : sooner st cl s = true ∧ canGo r first st cl s = true := by
  unfold hit at h; simpa using h
theorem sooner_true {st : Nat} {cl : List (Option Int)} {s : Stp} (h : sooner st cl s = true) : s.2.2 ≠ st ∧ ∀ c, clk cl s.2.2 = some c → s.1 < c := by
  unfold sooner at h
  by_cases e : s.2.2 = st
  · rw [if_pos e] at h; cases h
  · rw [if_neg e] at h
    refine ⟨e, fun c hc => ?_⟩
    rw [hc] at h
    exact of_decide_eq_true h
theorem sooner_of {st : Nat} {cl : List (Option Int)} {s : Stp} (e : s.2.2 ≠ st) (h : ∀ c, clk cl s.2.2 = some c → s.1 < c) : sooner st cl s = true := by
  unfold sooner
  rw [if_neg e]
  cases q : clk cl s.2.2 with
  | none => rfl
  | some c => exact decide_eq_true (h c q)
theorem base_step {ms : List Stp} {r : Int} {many st : Nat} {first : Int} {cl : List (Option Int)} {s : Stp} (B : Base ms r many st first cl) (hs : IsStp ms s.1 s.2.1 s.2.2) (hv : s.2.2 < many) : Base ms r many st first (stepF r first st cl s) := by
  unfold stepF
  by_cases h : hit r first st cl s = true
  · rw [if_pos h]
    obtain ⟨h1, h2⟩ := hit_true h
    obtain ⟨h3, h4⟩ := sooner_true h1
    refine ⟨by rw [List.length_set]; exact B.len, by rw [clk_set_ne h3]; exact B.at0, fun v hne t ht => ?_⟩
    by_cases e : s.2.2 = v
    · subst e
      rw [clk_set_same (by rw [B.len]; exact hv)] at ht
      cases ht
      unfold canGo at h2
      by_cases e2 : s.2.1 = st
      · rw [if_pos e2] at h2
        exact ⟨s.1, of_decide_eq_true h2, .one (by rw [← e2]; exact hs)⟩
      · rw [if_neg e2] at h2
        cases q : clk cl s.2.1 with
        | none => rw [q] at h2; cases h2
        | some c =>
          rw [q] at h2
          obtain ⟨l, hl, k⟩ := B.sound _ e2 c q
          exact ⟨l, hl, .snoc k hs (of_decide_eq_true h2)⟩
    · rw [clk_set_ne e] at ht
      exact B.sound v hne t ht
  · rw [if_neg h]; exact B
/-- how many steps would still come sooner -/
def mu (st : Nat) (ss : List Stp) (cl : List (Option Int)) : Nat := ss.countP (sooner st cl)
theorem countP_le {α : Type} {p q : α → Bool} : ∀ {l : List α}, (∀ x, q x = true → p x = true) → l.countP q ≤ l.countP p
  | [], _ => Nat.le_refl _
  | x :: l, h => by
    have ih := countP_le (l := l) h
    rw [List.countP_cons, List.countP_cons]
    by_cases hq : q x = true
    · rw [if_pos hq, if_pos (h x hq)]; omega
    · rw [if_neg hq]; split <;> omega
theorem countP_lt {α : Type} {p q : α → Bool} {y : α} : ∀ {l : List α}, (∀ x, q x = true → p x = true) → y ∈ l → p y = true → q y = false → l.countP q < l.countP p
  | [], _, hy, _, _ => by cases hy
  | x :: l, h, hy, hp, hn => by
    rw [List.countP_cons, List.countP_cons]
    rcases List.mem_cons.mp hy with e | hy
    · subst e
      rw [if_pos hp, hn]
      have := countP_le (l := l) h
      simp; omega
    · have ih := countP_lt h hy hp hn
      by_cases hq : q x = true
      · rw [if_pos hq, if_pos (h x hq)]; omega
      · rw [if_neg hq]; split <;> omega
theorem sooner_set {st : Nat} {cl : List (Option Int)} {s x : Stp} (h1 : sooner st cl s = true) (hv : s.2.2 < cl.length) (h : sooner st (cl.set s.2.2 (some s.1)) x = true) : sooner st cl x = true := by
  obtain ⟨a, b⟩ := sooner_true h
  obtain ⟨c, d⟩ := sooner_true h1
  refine sooner_of a fun k hk => ?_
  by_cases e : s.2.2 = x.2.2
  · have q := b s.1 (by rw [← e]; exact clk_set_same hv)
    have q2 := d k (by rw [e]; exact hk)
    omega
  · exact b k (by rw [clk_set_ne e]; exact hk)
theorem mu_step {r first : Int} {st : Nat} {ss : List Stp} {cl : List (Option Int)} {s : Stp} (hm : s ∈ ss) (hv : s.2.2 < cl.length) : mu st ss (stepF r first st cl s) ≤ mu st ss cl ∧ (hit r first st cl s = true → mu st ss (stepF r first st cl s) < mu st ss cl) := by
  unfold stepF
  by_cases h : hit r first st cl s = true
  · rw [if_pos h]
    obtain ⟨h1, _⟩ := hit_true h
    have lt : mu st ss (cl.set s.2.2 (some s.1)) < mu st ss cl := countP_lt (y := s) (fun x hx => sooner_set h1 hv hx) hm h1 (by
      cases q : sooner st (cl.set s.2.2 (some s.1)) s with
      | false => rfl
      | true =>
        have := (sooner_true q).2 s.1 (clk_set_same hv)
        omega)
    exact ⟨Nat.le_of_lt lt, fun _ => lt⟩
  · rw [if_neg h]; exact ⟨Nat.le_refl _, fun q => absurd q h⟩
/-- no step of these can come sooner -/
def Quiet (r first : Int) (st : Nat) (ss : List Stp) (cl : List (Option Int)) : Prop := ∀ s ∈ ss, hit r first st cl s = false
theorem quiet_step {r first : Int} {st : Nat} {pre : List Stp} {cl : List (Option Int)} {s : Stp} (hr : 0 < r) (hq : Quiet r first st pre cl) (hle : ∀ x ∈ pre, x.1 ≤ s.1) (hv : s.2.2 < cl.length) : Quiet r first st (pre ++ [s]) (stepF r first st cl s) := by
  intro x hx
  unfold stepF
  by_cases h : hit r first st cl s = true
  · rw [if_pos h]
    obtain ⟨h1, h2⟩ := hit_true h
    cases q : hit r first st (cl.set s.2.2 (some s.1)) x with
    | false => rfl
    | true =>
      exfalso
      obtain ⟨q1, q2⟩ := hit_true q
      have q1' := sooner_set h1 hv q1
      rcases List.mem_append.mp hx with hx | hx
      · have no := hq x hx
        unfold hit at no
        rw [q1', Bool.true_and] at no
        unfold canGo at no q2
        by_cases e : x.2.1 = st
        · rw [if_pos e] at no q2; rw [q2] at no; cases no
        · rw [if_neg e] at no q2
          by_cases e2 : s.2.2 = x.2.1
          · rw [← e2, clk_set_same hv] at q2
            have := of_decide_eq_true q2
            have := hle x hx
            omega
          · rw [clk_set_ne e2] at q2
            rw [q2] at no; cases no
      · have e : x = s := by simpa using hx
        subst e
        have := (sooner_true q1).2 x.1 (clk_set_same hv)
        omega
  · rw [if_neg h]
    rcases List.mem_append.mp hx with hx | hx
    · exact hq x hx
    · have e : x = s := by simpa using hx
      subst e
      simpa using h
/-- clocks that are quiet are the soonest comings -/
theorem complete {ms : List Stp} {r : Int} {many st : Nat} {first : Int} {cl : List (Option Int)} {ss : List Stp} (hr : 0 ≤ r) (B : Base ms r many st first cl) (hq : Quiet r first st ss cl) (hss : ∀ t u v, IsStp ms t u v → (t, u, v) ∈ ss) {a v : Nat} {l c : Int}
    (k : Wk ms r a l v c) : a = st → first ≤ l → v ≠ st → ∃ t, t ≤ c ∧ clk cl v = some t := by
  have fin : ∀ {t : Int} {u v : Nat}, IsStp ms t u v → canGo r first st cl (t, u, v) = true → v ≠ st → ∃ x, x ≤ t ∧ clk cl v = some x := fun {t u v} hs hg hv => by
    have no := hq _ (hss t u v hs)
    unfold hit at no
    rw [hg, Bool.and_true] at no
    unfold sooner at no
    rw [if_neg hv] at no
    cases q : clk cl v with
    | none => simp only [q] at no; cases no
    | some x =>
      simp only [q] at no
      exact ⟨x, by have := of_decide_eq_false no; omega, rfl⟩
  induction k with
  | one hs =>
    intro ha hl hv
    refine fin hs ?_ hv
    unfold canGo
    rw [if_pos ha]
    exact decide_eq_true hl
  | @snoc a l v c t w k hs hc ih =>
    intro ha hl hw
    refine fin hs ?_ hw
    unfold canGo
    by_cases e : v = st
    · rw [if_pos e]
      have := k.le hr
      exact decide_eq_true (by show first ≤ t; omega)
    · rw [if_neg e]
      obtain ⟨x, hx, q⟩ := ih ha hl e
      simp only [q]
      exact decide_eq_true (by show x + r ≤ t; omega)
/-- what soonest_from hands back -/
structure Good (ms : List Stp) (r : Int) (many st : Nat) (first : Int) (cl : List (Option Int)) : Prop where
  len : cl.length = many
  soon : ∀ v, v ≠ st → Soon ms r st v first (clk cl v)
theorem good_of {ms : List Stp} {r : Int} {many st : Nat} {first : Int} {cl : List (Option Int)} {ss : List Stp} (hr : 0 ≤ r) (B : Base ms r many st first cl) (hq : Quiet r first st ss cl) (hss : ∀ t u v, IsStp ms t u v → (t, u, v) ∈ ss) : Good ms r many st first cl := by
  refine ⟨B.len, fun v hv => ?_⟩
  cases q : clk cl v with
  | none =>
    intro l c hl k
    obtain ⟨t, _, e⟩ := complete hr B hq hss k rfl hl hv
    rw [q] at e; cases e
  | some t =>
    refine ⟨B.sound v hv t q, fun l c hl k => ?_⟩
    obtain ⟨t', hle, e⟩ := complete hr B hq hss k rfl hl hv
    rw [q] at e; cases e
    exact hle

/-! ### one pass -/
structure Pass (ms : List Stp) (r : Int) (many st : Nat) (first : Int) (ss : List Stp) (cl0 : List (Option Int)) (i : Nat) (cl : List (Option Int)) (ch : Bool) : Prop where
  base : Base ms r many st first cl
  le : mu st ss cl ≤ mu st ss cl0
  lt : ch = true → mu st ss cl < mu st ss cl0
  zero : r = 0 → ch = false → cl = cl0 ∧ Quiet r first st (ss.take i) cl0
  pos : 0 < r → Quiet r first st (ss.take i) cl
theorem Pass.start {ms : List Stp} {r : Int} {many st : Nat} {first : Int} {ss : List Stp} {cl : List (Option Int)} (B : Base ms r many st first cl) : Pass ms r many st first ss cl 0 cl false :=
  ⟨B, Nat.le_refl _, (fun h => nomatch h), fun _ _ => ⟨rfl, fun s h => by simp at h⟩, fun _ s h => by simp at h⟩
theorem Pass.no {ms : List Stp} {r : Int} {many st : Nat} {first : Int} {ss : List Stp} {cl0 cl : List (Option Int)} {i : Nat} {ch : Bool} {s : Stp} (P : Pass ms r many st first ss cl0 i cl ch) (hs : ss[i]? = some s) (hn : hit r first st cl s = false) :
    Pass ms r many st first ss cl0 (i + 1) cl ch := by
  have et : ss.take (i + 1) = ss.take i ++ [s] := by rw [List.take_add_one, hs]; rfl
  refine ⟨P.base, P.le, P.lt, fun h0 hc => ?_, fun h0 => ?_⟩
  · obtain ⟨e, q⟩ := P.zero h0 hc
    refine ⟨e, fun x hx => ?_⟩
    rw [et] at hx
    rcases List.mem_append.mp hx with hx | hx
    · exact q x hx
    · have ex : x = s := by simpa using hx
      rw [ex, ← e]; exact hn
  · intro x hx
    rw [et] at hx
    rcases List.mem_append.mp hx with hx | hx
    · exact P.pos h0 x hx
    · have ex : x = s := by simpa using hx
      rw [ex]; exact hn
theorem Pass.yes {ms : List Stp} {r : Int} {many st : Nat} {first : Int} {ss : List Stp} {cl0 cl : List (Option Int)} {i : Nat} {ch : Bool} {s : Stp} (P : Pass ms r many st first ss cl0 i cl ch) (hr : 0 ≤ r) (hs : ss[i]? = some s) (hn : hit r first st cl s = true)
    (hst : IsStp ms s.1 s.2.1 s.2.2) (hv : s.2.2 < many) (hsort : ss.Pairwise fun x y => x.1 ≤ y.1) : Pass ms r many st first ss cl0 (i + 1) (cl.set s.2.2 (some s.1)) (decide (r = 0)) := by
  have et : ss.take (i + 1) = ss.take i ++ [s] := by rw [List.take_add_one, hs]; rfl
  have es : stepF r first st cl s = cl.set s.2.2 (some s.1) := by unfold stepF; rw [if_pos hn]
  have hm : s ∈ ss := List.mem_of_getElem? hs
  have hl : s.2.2 < cl.length := by rw [P.base.len]; exact hv
  obtain ⟨m1, m2⟩ := mu_step (r := r) (first := first) (st := st) hm hl
  have lt := m2 hn
  rw [es] at lt
  have := P.le
  refine ⟨by rw [← es]; exact base_step P.base hst hv, by omega, fun _ => by omega, fun h0 hc => ?_, fun h0 => ?_⟩
  · rw [h0] at hc; simp at hc
  · rw [et, ← es]
    refine quiet_step h0 (P.pos h0) (fun x hx => ?_) hl
    obtain ⟨j, hj, e⟩ := List.getElem_of_mem hx
    rw [List.length_take] at hj
    obtain ⟨hi, ei⟩ := List.getElem?_eq_some_iff.mp hs
    have := List.pairwise_iff_getElem.mp hsort j i (by omega) hi (by omega)
    rw [ei] at this
    rw [List.getElem_take] at e
    rw [← e]; exact this
theorem Pass.done {ms : List Stp} {r : Int} {many st : Nat} {first : Int} {ss : List Stp} {cl0 cl : List (Option Int)} (P : Pass ms r many st first ss cl0 ss.length cl false) (hr : 0 ≤ r) : Quiet r first st ss cl := by
  rcases Int.lt_or_eq_of_le hr with h | h
  · have := P.pos h
    rwa [List.take_length] at this
  · obtain ⟨e, q⟩ := P.zero h.symm rfl
    rw [List.take_length] at q
    rw [e]; exact q
theorem base_start {ms : List Stp} {r : Int} {many st : Nat} {first : Int} (h : st < many) : Base ms r many st first ((List.replicate many none).set st (some first)) := by
  refine ⟨by rw [List.length_set, List.length_replicate], clk_set_same (by rw [List.length_replicate]; exact h), fun v hv t ht => ?_⟩
  rw [clk_set_ne (Ne.symm hv)] at ht
  unfold clk at ht
  rw [List.getElem?_replicate] at ht
  split at ht <;> cases ht

/-! ### best pairs -/
structure Best (ms : List Stp) (r : Int) (st goal : Nat) (ps : List (Int × Int)) : Prop where
  wk : ∀ p ∈ ps, Wk ms r st p.1 goal p.2
  asc : ps.Pairwise fun p q => p.1 < q.1
  soon : ∀ x, Soon ms r st goal x ((ps.filter fun p => decide (x ≤ p.1)).head?.map (·.2))
/-- the pairs found so far (from the last on), the moments still to come below b .. : all of them in rest -/
structure Found (ms : List Stp) (r : Int) (st goal : Nat) (rest : List Int) (ps : List (Int × Int)) : Prop where
  wk : ∀ p ∈ ps, Wk ms r st p.1 goal p.2
  desc : ps.Pairwise fun p q => q.1 < p.1
  above : ∀ p ∈ ps, ∀ m ∈ rest, m < p.1
  soon : ∀ x, (∀ m ∈ rest, m < x) → Soon ms r st goal x ((ps.filter fun p => decide (x ≤ p.1)).getLast?.map (·.2))
theorem Found.start {ms : List Stp} {r : Int} {st goal : Nat} {mo : List Int} (h : ∀ p ∈ ms, p.1 ∈ mo) : Found ms r st goal mo [] := by
  refine ⟨(fun p hp => by cases hp), List.Pairwise.nil, (fun p hp => by cases hp), fun x hx => ?_⟩
  show Soon ms r st goal x none
  intro l c hl k
  obtain ⟨p, hp, e⟩ := k.leave
  have := hx _ (h p hp)
  omega
theorem filter_all {ps : List (Int × Int)} {x : Int} (h : ∀ p ∈ ps, x ≤ p.1) : (ps.filter fun p => decide (x ≤ p.1)) = ps :=
  List.filter_eq_self.mpr fun p hp => decide_eq_true (h p hp)
/-- behind the last moment of rest ++ [m]: for x above rest, at most m -/
theorem Found.low {ms : List Stp} {r : Int} {st goal : Nat} {rest : List Int} {m x : Int} (hin : ∀ p ∈ ms, p.1 < m → p.1 ∈ rest) (hx : ∀ y ∈ rest, y < x) (hm : x ≤ m) {o : Option Int} (h : Soon ms r st goal m o) : Soon ms r st goal x o :=
  h.shift hm fun p hp hxp => by
    by_cases hlt : p.1 < m
    · have := hx _ (hin p hp hlt)
      omega
    · omega
theorem Found.skip {ms : List Stp} {r : Int} {st goal : Nat} {rest : List Int} {m : Int} {ps : List (Int × Int)} {o : Option Int} (F : Found ms r st goal (rest ++ [m]) ps) (hin : ∀ p ∈ ms, p.1 < m → p.1 ∈ rest) (hs : Soon ms r st goal m o)
    (h : ∀ t, o = some t → ∃ q, ps.getLast? = some q ∧ q.2 ≤ t) : Found ms r st goal rest ps := by
  refine ⟨F.wk, F.desc, fun p hp y hy => F.above p hp y (List.mem_append_left _ hy), fun x hx => ?_⟩
  by_cases hm : m < x
  · exact F.soon x fun y hy => (List.mem_append.mp hy).elim (hx y) fun z => by
      have e : y = m := by simpa using z
      rw [e]; exact hm
  · have hxm : x ≤ m := by omega
    have hab : ∀ p ∈ ps, x ≤ p.1 := fun p hp => by
      have := F.above p hp m (List.mem_append_right _ (by simp))
      omega
    rw [filter_all hab]
    refine Found.low hin hx hxm ?_
    cases q : ps.getLast? with
    | none =>
      cases o with
      | none => exact hs
      | some t =>
        obtain ⟨z, e, _⟩ := h t rfl
        rw [q] at e; cases e
    | some z =>
      have hz : z ∈ ps := List.mem_of_getLast? q
      have hzm := F.above z hz m (List.mem_append_right _ (by simp))
      have kz := F.wk z hz
      cases o with
      | none => exact absurd kz (hs z.1 z.2 (by omega))
      | some t =>
        obtain ⟨z', e, hle⟩ := h t rfl
        rw [q] at e
        cases e
        have h2 := hs.2 z.1 z.2 (by omega) kz
        have : t = z.2 := by omega
        subst this
        exact hs
theorem Found.take {ms : List Stp} {r : Int} {st goal : Nat} {rest : List Int} {m t : Int} {ps : List (Int × Int)} (F : Found ms r st goal (rest ++ [m]) ps) (hin : ∀ p ∈ ms, p.1 < m → p.1 ∈ rest) (hlt : ∀ y ∈ rest, y < m) (hs : Soon ms r st goal m (some t))
    (h : ∀ q, ps.getLast? = some q → t < q.2) : Found ms r st goal rest (ps ++ [(m, t)]) := by
  have hm : ∀ p ∈ ps, m < p.1 := fun p hp => F.above p hp m (List.mem_append_right _ (by simp))
  have exact_ : Wk ms r st m goal t := by
    obtain ⟨⟨l, hl, k⟩, mn⟩ := hs
    by_cases e : l = m
    · rw [← e]; exact k
    · exfalso
      have s1 := F.soon (m + 1) (fun y hy => (List.mem_append.mp hy).elim (fun z => by have := hlt y z; omega) fun z => by
        have e : y = m := by simpa using z
        omega)
      rw [filter_all (fun p hp => by have := hm p hp; omega)] at s1
      cases q : ps.getLast? with
      | none =>
        rw [q] at s1
        exact s1 l t (by omega) k
      | some z =>
        rw [q] at s1
        have := s1.2 l t (by omega) k
        have := h z q
        have e2 : z.2 ≤ t := by assumption
        omega
  refine ⟨fun p hp => ?_, ?_, fun p hp y hy => ?_, fun x hx => ?_⟩
  · rcases List.mem_append.mp hp with hp | hp
    · exact F.wk p hp
    · have e : p = (m, t) := by simpa using hp
      rw [e]; exact exact_
  · refine List.pairwise_append.mpr ⟨F.desc, List.pairwise_singleton _ _, fun p hp q hq => ?_⟩
    have e : q = (m, t) := by simpa using hq
    rw [e]; exact hm p hp
  · rcases List.mem_append.mp hp with hp | hp
    · exact F.above p hp y (List.mem_append_left _ hy)
    · have e : p = (m, t) := by simpa using hp
      rw [e]; exact hlt y hy
  · by_cases hxm : x ≤ m
    · have e1 : ((ps ++ [(m, t)]).filter fun p => decide (x ≤ p.1)) = ps ++ [(m, t)] := filter_all fun p hp => by
        rcases List.mem_append.mp hp with hp | hp
        · have := hm p hp; omega
        · have e : p = (m, t) := by simpa using hp
          rw [e]; exact hxm
      rw [e1, List.getLast?_append]
      exact Found.low hin hx hxm hs
    · have e1 : ((ps ++ [(m, t)]).filter fun p => decide (x ≤ p.1)) = ps.filter fun p => decide (x ≤ p.1) := by
        rw [List.filter_append, List.filter_cons_of_neg (by simpa using hxm), List.filter_nil, List.append_nil]
      rw [e1]
      exact F.soon x fun y hy => (List.mem_append.mp hy).elim (hx y) fun z => by
        have e : y = m := by simpa using z
        omega
theorem Found.best {ms : List Stp} {r : Int} {st goal : Nat} {ps : List (Int × Int)} (F : Found ms r st goal [] ps) : Best ms r st goal ps.reverse := by
  refine ⟨fun p hp => F.wk p (List.mem_reverse.mp hp), List.pairwise_reverse.mpr F.desc, fun x => ?_⟩
  rw [List.filter_reverse, List.head?_reverse]
  exact F.soon x fun m hm => by cases hm
/-- the turned web -/
def Turned (ms ms' : List Stp) : Prop := (∀ t a b, IsStp ms t a b → IsStp ms' (-t) b a) ∧ ∀ t a b, IsStp ms' t a b → IsStp ms (-t) b a
theorem getLast_max {ps : List (Int × Int)} (h : ps.Pairwise fun p q => p.1 < q.1) {z : Int × Int} (hz : ps.getLast? = some z) : ∀ p ∈ ps, p.1 ≤ z.1 := by
  intro p hp
  obtain ⟨ys, e⟩ := List.getLast?_eq_some_iff.mp hz
  subst e
  rcases List.mem_append.mp hp with hp | hp
  · exact Int.le_of_lt ((List.pairwise_append.mp h).2.2 p hp z (by simp))
  · have e : p = z := by simpa using hp
    rw [e]; exact Int.le_refl _
theorem Best.late {ms ms' : List Stp} {r : Int} {st goal : Nat} {ps : List (Int × Int)} (B : Best ms r st goal ps) (T : Turned ms ms') (t : Int) :
    Soon ms' r goal st (-t) (((ps.filter fun p => decide (p.2 ≤ t)).getLast?.map (·.1)).map fun l => -l) := by
  -- a walk that comes by t leaves no later than some pair that comes by t
  have key : ∀ l c, c ≤ t → Wk ms r st l goal c → ∃ p, p ∈ (ps.filter fun p => decide (p.2 ≤ t)) ∧ l ≤ p.1 := fun l c hc k => by
    have s := B.soon l
    cases q : (ps.filter fun p => decide (l ≤ p.1)).head? with
    | none =>
      rw [q] at s
      exact absurd k (s l c (Int.le_refl _))
    | some p =>
      rw [q] at s
      have h1 := s.2 l c (Int.le_refl _) k
      have hp := List.mem_of_mem_head? (by rw [q]; rfl : p ∈ (ps.filter fun p => decide (l ≤ p.1)).head?)
      obtain ⟨h2, h3⟩ := List.mem_filter.mp hp
      have h1' : p.2 ≤ c := h1
      exact ⟨p, List.mem_filter.mpr ⟨h2, decide_eq_true (by omega)⟩, of_decide_eq_true h3⟩
  cases q : (ps.filter fun p => decide (p.2 ≤ t)).getLast? with
  | none =>
    intro l c hl k
    have k' := k.rev T.2
    obtain ⟨p, hp, _⟩ := key (-c) (-l) (by omega) k'
    rw [List.getLast?_eq_none_iff] at q
    rw [q] at hp; cases hp
  | some z =>
    have hz := List.mem_of_getLast? q
    obtain ⟨h1, h2⟩ := List.mem_filter.mp hz
    have h2 := of_decide_eq_true h2
    refine ⟨⟨-z.2, by omega, (B.wk z h1).rev T.1⟩, fun l c hl k => ?_⟩
    have k' := k.rev T.2
    obtain ⟨p, hp, hle⟩ := key (-c) (-l) (by omega) k'
    have := getLast_max (B.asc.filter _) q p hp
    show -z.1 ≤ c
    omega
end WM

/-! Own rules: sorted of a list of triples of whole numbers. -/
namespace WM
open PySem PySem.Spec PyProof.Rows L2
/-- a triple as values -/
def stpV (s : Stp) : List V := [V.int s.1, V.int (s.2.1 : Nat), V.int (s.2.2 : Nat)]
def refs {α : Type} (bs : List (Addr × α)) : List V := bs.map fun b => V.ref b.1
def At3 (H : Hp) (bs : List (Addr × Stp)) : Prop := ∀ b ∈ bs, H b.1 = some (.tup (stpV b.2))
def encS (b : Addr × Stp) : PyData := .tuple (([b.2.1, (b.2.2.1 : Int), (b.2.2.2 : Int)] : List Int).map PyData.int)
def keyS (b : Addr × Stp) : List Int := [b.2.1, (b.2.2.1 : Int), (b.2.2.2 : Int)]
theorem leS : PySem.W.dataLe false encS = fun p q => decide (keyS p ≤ keyS q) := by
  funext p q
  show (!PySem.W.dataLt (.tuple ((keyS q).map PyData.int)) (.tuple ((keyS p).map PyData.int))) = _
  rw [PySem.W.dataLt_tuple]
  show (!PySem.W.rowLt ((keyS q).map PyData.int) ((keyS p).map PyData.int)) = _
  rw [PySem.W.dataLt_ints]
  by_cases h : keyS q < keyS p
  · have h' : ¬ keyS p ≤ keyS q := fun r => List.not_lt.mpr r h
    simp [h, h']
  · have h' : keyS p ≤ keyS q := List.not_lt.mp h
    simp [h, h']
theorem keyS_le {p q : Addr × Stp} (h : keyS p ≤ keyS q) : p.2.1 ≤ q.2.1 := by
  unfold keyS at h
  rcases Int.lt_or_le q.2.1 p.2.1 with c | c
  · exfalso
    exact List.not_lt.mpr h (List.cons_lt_cons_iff.mpr (.inl c))
  · exact c
theorem dpS {K : PySem.W.Frag} {H : Hp} {b : Addr × Stp} (h : H b.1 = some (.tup (stpV b.2))) : Dp K H (V.ref b.1) (encS b) :=
  .tup (SqT.of h) (.cons (.int _) (.cons (.int _) (.cons (.int _) .nil)))
theorem each_refs {X : Cx} {pins : List (Addr × Obj)} {σ : L2.St} {H : Hp} {s : Shared} (I : Inv X pins σ H s) : ∀ {bs : List (Addr × Stp)} {us : List Value}, Vals (refs bs) us → At3 H bs →
    PySem.W.EachIs (fun v b => v = Value.ref b.1) us bs ∧ PySem.W.EachIs (fun v b => ∃ as, Reads s.heap v (encS b) as) us bs
  | [], _, r, _ => by
    cases r
    exact ⟨.nil, .nil⟩
  | b :: bs, _, r, h => by
    cases r with
    | cons r1 r2 =>
      obtain ⟨e1, e2⟩ := each_refs I (bs := bs) r2 fun c hc => h c (List.mem_cons_of_mem _ hc)
      exact ⟨.cons r1 e1, .cons (Dp.reads I (encS b) _ _ (dpS (h b List.mem_cons_self)) r1) e2⟩
theorem vals_each : ∀ {bs : List (Addr × Stp)} {us : List Value}, PySem.W.EachIs (fun v b => v = Value.ref b.1) us bs → Vals (refs bs) us
  | _, _, .nil => .nil
  | _, _, .cons r t => .cons r (vals_each t)
def rSorted3 (K : PySem.W.Frag) : List V → Hp → VK → Prop := fun vs H Q => ∃ (a : Addr) (bs : List (Addr × Stp)), vs = [V.ref a] ∧ SqL K H a (refs bs) ∧ At3 H bs ∧ bs.length ≤ 1000 ∧
  ∀ (bs' : List (Addr × Stp)) (p : Addr), bs'.Perm bs → bs'.Pairwise (fun x y => x.2.1 ≤ y.2.1) → H p = none → Q (.ref p) (upd H p (.lst (refs bs')))
theorem cr_sorted3 {X : Cx} (hu : X.A.units + 64 < cLine) : CallR X (.builtin "sorted") (rSorted3 X.K) := by
  intro pins s σ H vs us Q I r h
  obtain ⟨a, bs, rfl, hs, h3, hl, q⟩ := h
  obtain ⟨its, rv, pl, hz⟩ := I.list hs
  rw [Vals.ref1 r]
  obtain ⟨e1, e2⟩ := each_refs I rv h3
  have hzl : bs.length ≤ sizeLine := Nat.le_of_lt (small1000 hl)
  refine PySem.W.sorted_data (R := fun v b => v = Value.ref b.1) pl.isList e1 e2 (PySem.W.AllAlike.of fun b b' => ?_) (PySem.W.Sortable.tuples fun b => ⟨_, _, rfl⟩) hzl (fun b _ => ?_) fun out hlen he => ?_
  · exact PySem.W.alike_ints _ _
  · show X.A.units + 2 + (PyData.tuple _).depth < cLine
    have : (encS b).depth ≤ 1 := by
      unfold encS
      simp only [PyData.depth]
      rw [PySem.W.depth_ints]
      decide
    have : (PyData.tuple (([b.2.1, (b.2.2.1 : Int), (b.2.2.2 : Int)] : List Int).map PyData.int)).depth ≤ 1 := this
    omega
  · have hp : (bs.mergeSort (PySem.W.dataLe false encS)).Perm bs := List.mergeSort_perm _ _
    have hw : (bs.mergeSort (PySem.W.dataLe false encS)).Pairwise fun x y => x.2.1 ≤ y.2.1 := by
      refine List.Pairwise.imp ?_ (List.pairwise_mergeSort (le := PySem.W.dataLe false encS) ?_ ?_ bs)
      · intro x y hxy
        rw [leS] at hxy
        exact keyS_le (of_decide_eq_true hxy)
      · intro x y z h1 h2
        rw [leS] at h1 h2 ⊢
        exact decide_eq_true (List.le_trans (of_decide_eq_true h1) (of_decide_eq_true h2))
      · intro x y
        rw [leS]
        rcases List.le_total (keyS x) (keyS y) with h | h
        · simp [h]
        · simp [h]
    obtain ⟨ep, he'⟩ := PyProof.Rows.sortedAll_at s.heap its out.toArray
    have hl' : (refs (bs.mergeSort (PySem.W.dataLe false encS))).length ≤ sizeLine := by
      unfold refs
      rw [List.length_map, hp.length_eq]
      exact hzl
    refine ⟨.ref _, upd H (s.heap.objs.size + 1) (.lst (refs (bs.mergeSort (PySem.W.dataLe false encS)))), I.laid (t' := s.toks) (fun _ _ => PyProof.Rows.sortedAll_old) (Nat.le_succ _) ⟨hl', out, ep, vals_each he, he'⟩, rfl, q _ _ hp hw (I.hok.fresh (Nat.le_succ _))⟩
end WM

/-! Own rule: set(xs), xs a list of whole numbers, as a set that can be walked. -/
namespace WM
open PySem PySem.Spec PyProof.Rows L2
section
variable {P : Program} {w : World} {A : Around} {E : Value → Shared → Prop} {s : Shared}
/-- a set just made -/
abbrev eS (w : World) : Obj := { cls := .type "set", dict := none, data := .set #[] 0 (.fresh 0 0 (!w.params.followText "set-order")) }
theorem set_of_list {l : Addr} {items : Array Value} (ns : List Int) {Q : Value → Shared → Prop} (hh : A.handled = none) (hl : s.heap.IsList l items) (hit : IntsAre items.toList ns) (hb : ns.length + 1 < scanBound)
    (go : ∀ (g : Heap) (tk c : Nat), SetR w g s.heap.objs.size (fun z => decide (z ∈ ns)) c → c ≤ ns.length → (∀ b u, s.heap.get? b = some u → g.get? b = some u) → Q (.ref s.heap.objs.size) { s with heap := g, toks := tk }) : wpAny (model P w) A (call (.type "set") [.ref l]) Q E s := by
  have hn : items.size = ns.length := by rw [← Array.length_toList]; exact IntsAre.length hit
  have m1 := F.called_set.mro
  have m2 := F.called_set.made
  have m3 := F.called_set.sub
  obtain ⟨c0, tl0, m1⟩ := m1
  refine wpAny_call (codeAny_of_tree (show wpAny _ _ (callAny (.type "set") _) _ _ _ from wpAny_pure ⟨Code.quiet_builtin _ (by decide +kernel), codeAny_builtin F.entry_type_call ?_⟩))
  have m4 := F.called_set.notType
  rw [show A.under _ = _ from Around.under_plain (weight_type_call_type "set" [.ref l] []) rfl]
  have m5 := F.called_set.canCreate
  have m6 := F.typeCall_set_1 (.ref l)
  repeat (any_goals (first | assumption | wp_step))
  refine codeAny_mono (code_set_led1 (.ref l) (E := E) (Q₁ := fun v s1 => v = .ref s.heap.objs.size ∧ s1 = { s with heap := s.heap.push (eS w) }) ⟨rfl, rfl⟩) fun r s1 hr => ?_
  cases r with
  | error e => exact hr
  | ok fl =>
    cases fl with
    | ret v =>
      obtain ⟨rfl, rfl⟩ := hr
      have gS : (s.heap.push (eS w)).get? s.heap.objs.size = some (eS w) := Heap.get?_push_size _ rfl
      have tS : Shared.TypeIs { s with heap := s.heap.push (eS w) } (.ref s.heap.objs.size) "set" := ⟨_, gS, rfl⟩
      have m7 := F.called_set.init.lookup
      have m8 := F.called_set.init.bind (.ref s.heap.objs.size)
      repeat (any_goals (first | assumption | wp_step))
      refine codeAny_mono (codeAny_call_builtin (R := wants (fun r s2 => r = .none ∧ ∃ h' tk c, s2 = { s with heap := h', toks := tk } ∧ SetR w h' s.heap.objs.size (fun j => decide (j ∈ ns)) c ∧ c ≤ ns.length ∧
          ∀ b o, s.heap.get? b = some o → h'.get? b = some o) E) F.called_set.init.plain F.entry_set_init (check_set_init_1 tS ?_)) fun r2 s2 hr2 => ?_
      · obtain ⟨⟨kc, kd, kt, ks⟩, g0, gc, gn, gd⟩ := hl
        simp only at gc gd
        subst gc; subst gd
        have g1 : (s.heap.push (eS w)).get? l = some { cls := .type "list", dict := kd, data := .seq items gn, slots := ks } := Heap.get?_push_of_some _ g0
        have b1 := F.sub_list_set
        have b2 := F.sub_list_frozenset
        have b3 : (Value.type "list" == Value.type "dict") = false := by decide
        have l1 : (s.heap.push (eS w)).IsList l items := ⟨_, g1, rfl, gn, rfl⟩
        unfold Builtin.«set.__init__» noKeywords
        unfold Builtin.Frozenset.updateFrom
        generalize hPI : pyIter = PI
        wp_walk
        subst hPI
        refine wpAny_pyIter_list l1 (wpAny_bind (wpAny_runValue ?_))
        have lt : l < s.heap.objs.size := Heap.lt_size g0
        have z1 : (s.heap.push (eS w)).objs.size = s.heap.objs.size + 1 := Heap.size_push ..
        have ne1 : l ≠ (s.heap.push (eS w)).objs.size := by rw [z1]; exact Nat.ne_of_lt (Nat.lt_succ_of_lt lt)
        have nin : s.heap.objs.size ∉ [(s.heap.push (eS w)).objs.size, l] := by
          rw [z1]
          simp only [List.mem_cons, List.mem_singleton, List.not_mem_nil, or_false, not_or]
          exact ⟨Nat.ne_of_lt (Nat.lt_succ_self _), Nat.ne_of_gt lt⟩
        have val : ∀ (i : Nat) (v : Value), items[i]? = some v → ∃ k t, ns[i]? = some k ∧ v = .int k t := fun i v hv => by
          have hi : i < ns.length := by rw [← hn]; exact (Array.getElem?_eq_some_iff.mp hv).1
          have hv' : items.toList[i]? = some v := by rw [Array.getElem?_toList]; exact hv
          obtain ⟨t, e⟩ := PyProof.Rows.IntsAre.int_at hit i v hv'
          exact ⟨ns[i], t, List.getElem?_eq_getElem hi, by rw [e, List.getD_eq_getElem?_getD, List.getElem?_eq_getElem hi] <;> rfl⟩
        refine set_update_ints ((Walks.list (by simp [hh]) _ l ne1 items).toS) s.heap.objs.size nin ns hn hb val (items.size - 0) 0 _ (by omega) (Nat.zero_le _) ⟨⟨_, Heap.get?_push_size _ rfl, rfl, rfl⟩, (l1.push _)⟩
          ⟨0, Nat.le_refl 0, setR_new_at (Heap.get?_push_of_some _ gS)⟩ ?_
        rintro ⟨h', g2, d2, tk2, o2⟩ c2 mv hc2 r2
        have q1 : g2 = s.gens := mv.gens
        have q2 : d2 = s.drawn := mv.drawn
        have q3 : o2 = s.os := mv.os
        subst q1; subst q2; subst q3
        show wpAny _ _ _ _ _ _
        refine wpAny_pure ?_
        show wpAny _ _ (ret Value.none) _ _ _
        rw [hn] at hc2
        refine wpAny_pure ⟨rfl, h', tk2, c2, rfl, r2, hc2, fun b o e => ?_⟩
        have lb : b < s.heap.objs.size := Heap.lt_size e
        refine mv.heap b o ?_ (Heap.get?_push_of_some _ (Heap.get?_push_of_some _ e))
        rw [z1]
        simp only [List.mem_cons, List.mem_singleton, List.not_mem_nil, or_false, not_or]
        exact ⟨Nat.ne_of_lt lb, Nat.ne_of_lt (Nat.lt_succ_of_lt lb)⟩
      · cases r2 with
        | error e => exact hr2
        | ok fl2 =>
          cases fl2 with
          | ret r =>
            obtain ⟨rfl, h', tk, c', rfl, r3, hc3, hk3⟩ := hr2
            repeat (any_goals (first | assumption | wp_step))
            exact go _ _ _ r3 hc3 hk3
          | _ => exact hr2.elim
    | _ => exact hr.elim
end
/-- set(xs) -/
def rSetI (K : PySem.W.Frag) (w : World) : List V → Hp → VK → Prop := fun vs H Q => ∃ (a : Addr) (ns : List Int), vs = [V.ref a] ∧ SqL K H a (ns.map V.int) ∧ ns.length ≤ 1000 ∧
  ∀ (p : Addr) (c : Nat), H p = none → c ≤ ns.length → Q (.ref p) (upd H p (SetO w p (fun j => decide (j ∈ ns)) c))
theorem cr_setI {X : Cx} (hc : X.calm = true) : CallR X (.type "set") (rSetI X.K X.w) := by
  intro pins s σ H vs us Q I r h
  obtain ⟨a, ns, rfl, hs, hl, q⟩ := h
  obtain ⟨its, rv, pl, hz⟩ := I.list hs
  rw [Vals.ref1 r]
  refine set_of_list ns (I.ok.hd hc) pl.isList (by simpa using rv.ints) (by unfold scanBound; omega) fun h' tk c hR hle hk => ?_
  exact ⟨.ref _, upd H s.heap.objs.size (SetO X.w s.heap.objs.size (fun j => decide (j ∈ ns)) c), I.laid (t' := tk) hk (Nat.le_refl _) (setO_new hR), rfl, q _ c (I.hok.fresh (Nat.le_refl _)) hle⟩
end WM

/-! The text by places, the heap's relations, what stands for a web. -/
namespace WM
open PySem PySem.Spec PyProof.Rows L2
def topS (i : Nat) : Stmt := PySem.Challenge.pw_whenmeet_k37_whole_pairs_answer_all.main.body.getD i (.Pass ⟨0, 0, 0, 0⟩)
abbrev sMoments : Stmt := topS 1
abbrev sTurned : Stmt := topS 2
abbrev sSteps : Stmt := topS 4
abbrev sCan : Stmt := topS 6
abbrev sSooner : Stmt := topS 7
abbrev sTree : Stmt := topS 8
abbrev sFrom : Stmt := topS 9
abbrev sBest : Stmt := topS 11
abbrev sTMoment : Stmt := topS 13
abbrev sTList : Stmt := topS 14
abbrev sLatest : Stmt := topS 15
abbrev sPool : Stmt := topS 17
abbrev sNext : Stmt := topS 18
abbrev sMoment : Stmt := topS 19
abbrev sDrawn : Stmt := topS 20
abbrev sSteep : Stmt := topS 21
abbrev sScene : Stmt := topS 22
abbrev sFolded : Stmt := topS 23
abbrev sRight : Stmt := topS 24
abbrev sLaw : Stmt := topS 25
/-! ### heaps -/
theorem same_new {H : Hp} {p : Addr} {o : HO} (h : H p = none) : Same H (upd H p o) := fun b x e => by
  rw [upd_ne (ne_of_none e h)]
  exact e
/-- an own object, not there at the entry, is made or written -/
theorem same_put {H0 H : Hp} {p : Addr} {o : HO} (e : Same H0 H) (h : H0 p = none) : Same H0 (upd H p o) := fun b x q => by
  rw [upd_ne (ne_of_none q h)]
  exact e b x q
theorem at_ne {H : Hp} {p q : Addr} {o u : HO} (h : H q = some u) (ne : q ≠ p) : upd H p o q = some u := by
  rw [upd_ne ne]
  exact h
theorem at_new {H : Hp} {p q : Addr} {o u : HO} (h : H q = some u) (n : H p = none) : upd H p o q = some u := same_new n q u h
/-- all but what stands at a is as it was -/
def Keeps (a : Addr) (H H' : Hp) : Prop := ∀ b o, b ≠ a → H b = some o → H' b = some o
theorem Keeps.refl (a : Addr) (H : Hp) : Keeps a H H := fun _ _ _ h => h
theorem Keeps.trans {a : Addr} {H H1 H2 : Hp} (x : Keeps a H H1) (y : Keeps a H1 H2) : Keeps a H H2 := fun b o n e => y b o n (x b o n e)
theorem Same.keeps {a : Addr} {H H' : Hp} (e : Same H H') : Keeps a H H' := fun b o _ q => e b o q
theorem keeps_put {a : Addr} {H : Hp} {o : HO} : Keeps a H (upd H a o) := fun b x n e => by
  rw [upd_ne n]
  exact e
theorem keeps_new {a p : Addr} {H : Hp} {o : HO} (h : H p = none) : Keeps a H (upd H p o) := Same.keeps (same_new h)
/-- own objects put: not there at the entry -/
theorem keeps_own {a p : Addr} {H0 H : Hp} {o : HO} (e : Keeps a H0 H) (h : H0 p = none) : Keeps a H0 (upd H p o) := fun b x n q => by
  rw [upd_ne (ne_of_none q h)]
  exact e b x n q
/-- what is free now and was there only at a was free at the entry -/
theorem Keeps.free {a p : Addr} {H0 H : Hp} (e : Keeps a H0 H) (ha : ∃ o, H a = some o) (h : H p = none) : H0 p = none := by
  cases q : H0 p with
  | none => rfl
  | some o =>
    by_cases n : p = a
    · obtain ⟨u, hu⟩ := ha
      rw [n, hu] at h; cases h
    · rw [e p o n q] at h; cases h
theorem Keeps.tup {a b : Addr} {H H' : Hp} {xs : List V} (e : Keeps a H H') {ys : List V} (ha : H a = some (.lst ys)) (h : H b = some (.tup xs)) : H' b = some (.tup xs) :=
  e b _ (ne_of h ha (by intro z; cases z)) h
/-- a None or a number -/
def vO : Option Int → V
  | none => .non
  | some i => .int i
/-! ### webs -/
structure WebAt (H : Hp) (w : Addr) (many : Nat) (bs : List (Addr × Stp)) : Prop where
  at_ : ∃ t, H w = some (.tup [.int (many : Nat), .ref t]) ∧ H t = some (.tup (refs bs))
  all : At3 H bs
  bd : ∀ b ∈ bs, b.2.2.1 < many ∧ b.2.2.2 < many
  len : bs.length ≤ 24
theorem At3.same {H H' : Hp} {bs : List (Addr × Stp)} (h : At3 H bs) (e : Same H H') : At3 H' bs := fun b hb => e _ _ (h b hb)
theorem At3.keeps {H H' : Hp} {bs : List (Addr × Stp)} {a : Addr} {ys : List V} (h : At3 H bs) (e : Keeps a H H') (ha : H a = some (.lst ys)) : At3 H' bs := fun b hb => e.tup ha (h b hb)
theorem WebAt.same {H H' : Hp} {w : Addr} {many : Nat} {bs : List (Addr × Stp)} (h : WebAt H w many bs) (e : Same H H') : WebAt H' w many bs := by
  obtain ⟨⟨t, h1, h2⟩, h3, h4, h5⟩ := h
  exact ⟨⟨t, e _ _ h1, e _ _ h2⟩, h3.same e, h4, h5⟩
theorem WebAt.keeps {H H' : Hp} {w : Addr} {many : Nat} {bs : List (Addr × Stp)} {a : Addr} {ys : List V} (h : WebAt H w many bs) (e : Keeps a H H') (ha : H a = some (.lst ys)) : WebAt H' w many bs := by
  obtain ⟨⟨t, h1, h2⟩, h3, h4, h5⟩ := h
  exact ⟨⟨t, e.tup ha h1, e.tup ha h2⟩, h3.keeps e ha, h4, h5⟩
/-- the meetings of a list with addresses -/
abbrev dat {α : Type} (bs : List (Addr × α)) : List α := bs.map (·.2)
theorem refs_get {α : Type} {bs : List (Addr × α)} {i : Nat} {x : V} (h : (refs bs)[i]? = some x) : ∃ b, bs[i]? = some b ∧ x = .ref b.1 := by
  unfold refs at h
  rw [List.getElem?_map] at h
  cases q : bs[i]? with
  | none => rw [q] at h; cases h
  | some b => rw [q] at h; exact ⟨b, rfl, (Option.some.inj h).symm⟩
theorem refs_length {α : Type} (bs : List (Addr × α)) : (refs bs).length = bs.length := List.length_map ..
theorem refs_append {α : Type} (bs cs : List (Addr × α)) : refs (bs ++ cs) = refs bs ++ refs cs := List.map_append ..
theorem ints_get {ns : List Int} {i : Nat} {x : V} (h : (ns.map V.int)[i]? = some x) : ∃ z, ns[i]? = some z ∧ x = .int z := by
  rw [List.getElem?_map] at h
  cases q : ns[i]? with
  | none => rw [q] at h; cases h
  | some b => rw [q] at h; exact ⟨b, rfl, (Option.some.inj h).symm⟩
theorem big {n : Nat} (h : n ≤ 1000) : n ≤ sizeLine := Nat.le_of_lt (small1000 h)
end WM

/-! lists of tuples of whole numbers as data -/
namespace WM
open PySem PySem.Spec PyProof.Rows L2
def tupD (ns : List Int) : PyData := .tuple (ns.map PyData.int)
theorem lay_ints : ∀ ns : List Int, PyData.canLayAll0 (ns.map PyData.int) = true
  | [] => by simp [PyData.canLayAll0]
  | n :: ns => by simp [PyData.canLayAll0, PyData.canLay0, lay_ints ns]
theorem tupD_lay (ns : List Int) : (tupD ns).canLay0 = true := by
  unfold tupD
  simp only [PyData.canLay0]
  exact lay_ints ns
theorem tupD_depth (ns : List Int) : (tupD ns).depth ≤ 1 := by
  unfold tupD
  simp only [PyData.depth]
  rw [PySem.W.depth_ints]
  decide
theorem tupD_shaped (ns : List Int) : SeqAt.shaped (tupD ns) = true := by
  have h := tupD_depth ns
  show ((tupD ns).canLay0 && decide ((tupD ns).depth ≤ 64)) = true
  rw [tupD_lay, Bool.true_and]
  exact decide_eq_true (by omega)
theorem tupDs_lay : ∀ zs : List (List Int), PyData.canLayAll0 (zs.map tupD) = true
  | [] => by simp [PyData.canLayAll0]
  | z :: zs => by simp [PyData.canLayAll0, tupD_lay z, tupDs_lay zs]
theorem tupDs_depth : ∀ zs : List (List Int), PyData.depthAll (zs.map tupD) ≤ 1
  | [] => by simp [PyData.depthAll]
  | z :: zs => by
    have h1 := tupDs_depth zs
    have h2 := tupD_depth z
    simp only [List.map_cons, PyData.depthAll]
    omega
theorem tupDs_shaped (zs : List (List Int)) : SeqAt.shaped (.list (zs.map tupD)) = true := by
  have h1 := tupDs_depth zs
  have h2 : PyData.depth (.list (zs.map tupD)) ≤ 64 := by
    simp only [PyData.depth]
    omega
  show (PyData.canLay0 (.list (zs.map tupD)) && decide (PyData.depth (.list (zs.map tupD)) ≤ 64)) = true
  rw [show PyData.canLay0 (.list (zs.map tupD)) = true by simp only [PyData.canLay0]; exact tupDs_lay zs, Bool.true_and]
  exact decide_eq_true h2
theorem dp_ints {K : PySem.W.Frag} {H : Hp} : ∀ ns : List Int, DpAll K H (ns.map V.int) (ns.map PyData.int)
  | [] => .nil
  | n :: ns => .cons (.int n) (dp_ints ns)
theorem dp_tup {K : PySem.W.Frag} {H : Hp} {a : Addr} {ns : List Int} (h : H a = some (.tup (ns.map V.int))) : Dp K H (.ref a) (tupD ns) := .tup (SqT.of h) (dp_ints ns)
/-- a list of tuples of whole numbers: f tells each one's numbers -/
theorem dp_refs {K : PySem.W.Frag} {H : Hp} {α : Type} {f : α → List Int} : ∀ {bs : List (Addr × α)}, (∀ b ∈ bs, H b.1 = some (.tup ((f b.2).map V.int))) → DpAll K H (refs bs) ((bs.map fun b => f b.2).map tupD)
  | [], _ => .nil
  | b :: bs, h => .cons (dp_tup (h b List.mem_cons_self)) (dp_refs fun c hc => h c (List.mem_cons_of_mem _ hc))
theorem eqv_nil (ds : List PyData) : PyData.eqv (.list ds) (.list []) = ds.isEmpty := by
  cases ds with
  | nil => simp [PyData.eqv, PyData.eqvAll]
  | cons d ds => simp [PyData.eqv, PyData.eqvAll]
/-! ### pairs -/
def At2 (H : Hp) (bs : List (Addr × (Int × Int))) : Prop := ∀ b ∈ bs, H b.1 = some (.tup [.int b.2.1, .int b.2.2])
theorem At2.same {H H' : Hp} {bs : List (Addr × (Int × Int))} (h : At2 H bs) (e : Same H H') : At2 H' bs := fun b hb => e _ _ (h b hb)
theorem dp_pairs {K : PySem.W.Frag} {H : Hp} {a : Addr} {bs : List (Addr × (Int × Int))} (ha : H a = some (.lst (refs bs))) (h : At2 H bs) : Dp K H (.ref a) (.list ((bs.map fun b => [b.2.1, b.2.2]).map tupD)) :=
  .lst (SqL.of ha) (dp_refs (f := fun p : Int × Int => [p.1, p.2]) fun b hb => h b hb)
/-- falling moments -/
theorem desc_split {rs : List Int} (h : rs.Pairwise fun a b => b < a) {i : Nat} {x : Int} (hx : rs[i]? = some x) :
    (rs.drop i).reverse = (rs.drop (i + 1)).reverse ++ [x] ∧ (∀ y ∈ rs, y < x → y ∈ (rs.drop (i + 1)).reverse) ∧ ∀ y ∈ (rs.drop (i + 1)).reverse, y < x := by
  obtain ⟨hi, e⟩ := List.getElem?_eq_some_iff.mp hx
  have ed : rs.drop i = x :: rs.drop (i + 1) := by rw [← e]; exact List.drop_eq_getElem_cons hi
  have es : rs = rs.take i ++ x :: rs.drop (i + 1) := by rw [← ed, List.take_append_drop]
  have hp := h
  rw [es] at hp
  obtain ⟨p1, p2, p3⟩ := List.pairwise_append.mp hp
  obtain ⟨p4, p5⟩ := List.pairwise_cons.mp p2
  refine ⟨by rw [ed, List.reverse_cons], fun y hy hlt => ?_, fun y hy => p4 y (List.mem_reverse.mp hy)⟩
  rw [es] at hy
  rcases List.mem_append.mp hy with hy | hy
  · have := p3 y hy x List.mem_cons_self
    omega
  · rcases List.mem_cons.mp hy with hy | hy
    · omega
    · exact List.mem_reverse.mpr hy
end WM

namespace WM
open PySem PySem.Spec PyProof.Rows L2
section
variable {P : Program} {w : World} {K : PySem.W.Frag} {mg : Str → Option Value} {base : Heap}
/-! ### moments_of -/
theorem scMoments : FnScope ["web", "meet"] ["web"] (defScope sMoments) := ⟨rfl, rfl, rfl, by decide +kernel, rfl, by decide +kernel, by decide +kernel⟩
def spMoments : Sp := fun vs H Q _ => ∃ (a : Addr) (many : Nat) (bs : List (Addr × Stp)), vs = [.ref a] ∧ WebAt H a many bs ∧
  ∀ (H' : Hp) (p : Addr) (ns : List Int), Same H H' → H p = none → H' p = some (.lst (ns.map V.int)) → ns.Pairwise (· < ·) → (∀ k, k ∈ ns ↔ ∃ s ∈ dat bs, s.1 = k) → ns.length ≤ 24 → Q (.ref p) H'
theorem ok_moments {f : Addr} {fd : FuncData} {k : Nat} (F : Fun K "moments_of" "moments_of" sMoments f fd) (mS : mg "sorted" = none) (mE : mg "set" = none) : FnOk P w K mg base CX0 (k + 1) f fd ["web"] spMoments := by
  refine F.ok scMoments (fun vs H Q E h => ?_) (fun cdv A outer s H vs Q E hr h => ?_)
  · obtain ⟨a, many, bs, rfl, _⟩ := h
    rfl
  · obtain ⟨a, many, bs, rfl, hW, q⟩ := h
    refine ⟨_, pss_one (ps_ret (pe_callB (cr_sortedSet rfl) (by rfl) mS PyProof.Rows.boot_sorted (pa_cons (pe_callTy (cr_setI rfl) (by rfl) mE PyProof.Rows.boot_set (pa_cons
      (pe_lc (own := [("meet", 1)]) (g := gName 1) (tt := tYes) rfl scMoments.nd (pi_tup (pe_ix ix_tup (pv 0) pe_int (fun _ _ => rfl))) (blkOk_by (N := ["web", "meet"]) (sc := defScope sMoments) (by decide +kernel))
        (fun _ _ _ _ _ => pg_name (i := 1) scMoments.nd rfl (Or.inl rfl)) (fun _ _ _ _ _ => pts_nil) (fun _ _ _ _ _ => pe_ix (r := rIxT K) ix_tup (pv 1) pe_int (fun _ _ => rfl)))
      pa_nil)) pa_nil))), ?_⟩
    obtain ⟨⟨t, h1, h2⟩, h3, h4, h5⟩ := hW
    refine ⟨.ref a, rfl, a, _, 1, .ref t, rfl, rfl, SqT.of h1, rfl, t, rfl, ⟨_, SqT.of h2⟩, fun D hD => ?_⟩
    refine lc_tup (K := K) (a := t) (xs := refs bs) (fun i H1 => Same H H1 ∧ H1 D = some (.lst (((dat bs).take i).map fun s => V.int s.1))) ⟨same_new hD, upd_same⟩ (fun i H1 _ ⟨sm, _⟩ => SqT.of (sm _ _ h2)) ?_ ?_
    · rintro i x H1 hx ⟨sm, hd⟩
      obtain ⟨b, hb, rfl⟩ := refs_get hx
      have hbm := List.mem_of_getElem? hb
      have h3' := sm _ _ (h3 b hbm)
      refine ⟨rfl, .ref b.1, rfl, b.1, _, 0, .int b.2.1, rfl, rfl, SqT.of h3', rfl, _, hd, ?_, same_put sm hD, ?_⟩
      · rw [List.length_map]
        refine small1000 ?_
        rw [List.length_take, List.length_map]
        omega
      · rw [upd_same, List.take_add_one, List.getElem?_map, hb, List.map_append]
        rfl
    · rintro H1 ⟨sm, hd⟩
      rw [refs_length, List.take_of_length_le (by rw [List.length_map]; exact Nat.le_refl _)] at hd
      refine ⟨D, (dat bs).map (·.1), rfl, SqL.of (by rw [hd]; simp only [List.map_map]; rfl), by rw [List.length_map, List.length_map]; omega, fun p c hp hc => ?_⟩
      rw [List.length_map, List.length_map] at hc
      refine ⟨p, _, c, rfl, upd_same, by omega, fun ns r h6 h7 h8 hr' => ?_⟩
      have s2 : Same H (upd H1 p (SetO w p (fun j => decide (j ∈ (dat bs).map (·.1))) c)) := same_put sm (sm.free hp)
      refine q _ r ns (same_put s2 (s2.free hr')) (s2.free hr') upd_same h6 (fun k => ?_) (by omega)
      rw [h7 k, decide_eq_true_iff]
      simp only [List.mem_map]
end
end WM

namespace WM
open PySem PySem.Spec PyProof.Rows L2
def tn (s : Stp) : Stp := (-s.1, s.2.1, s.2.2)
theorem turned_of {ms ms' : List Stp} (h : ∀ s, s ∈ ms' ↔ s ∈ ms.map tn) : Turned ms ms' := by
  have fwd : ∀ t a b, (t, a, b) ∈ ms → (-t, a, b) ∈ ms' := fun t a b hm => (h _).mpr (List.mem_map.mpr ⟨_, hm, rfl⟩)
  have bwd : ∀ t a b, (t, a, b) ∈ ms' → (-t, a, b) ∈ ms := fun t a b hm => by
    obtain ⟨⟨x, y, z⟩, hs, e⟩ := List.mem_map.mp ((h _).mp hm)
    have e' : (-x, y, z) = (t, a, b) := e
    cases e'
    rw [Int.neg_neg]
    exact hs
  exact ⟨fun t a b hs => hs.elim (fun z => .inr (fwd _ _ _ z)) fun z => .inl (fwd _ _ _ z), fun t a b hs => hs.elim (fun z => .inr (bwd _ _ _ z)) fun z => .inl (bwd _ _ _ z)⟩
section
variable {P : Program} {w : World} {K : PySem.W.Frag} {mg : Str → Option Value} {base : Heap}
/-! ### turned_web -/
theorem scTurned : FnScope ["web", "moment", "one", "other"] ["web"] (defScope sTurned) := ⟨rfl, rfl, rfl, by decide +kernel, rfl, by decide +kernel, by decide +kernel⟩
def spTurned : Sp := fun vs H Q _ => ∃ (a : Addr) (many : Nat) (bs : List (Addr × Stp)), vs = [.ref a] ∧ WebAt H a many bs ∧
  ∀ (H' : Hp) (p : Addr) (bs' : List (Addr × Stp)), Same H H' → WebAt H' p many bs' → Turned (dat bs) (dat bs') → Q (.ref p) H'
theorem ok_turned {f : Addr} {fd : FuncData} {k : Nat} (F : Fun K "turned_web" "turned_web" sTurned f fd) (mS : mg "sorted" = none) (mT : mg "tuple" = none) : FnOk P w K mg base CX0 (k + 1) f fd ["web"] spTurned := by
  refine F.ok scTurned (fun vs H Q E h => ?_) (fun cdv A outer s H vs Q E hr h => ?_)
  · obtain ⟨a, many, bs, rfl, _⟩ := h
    rfl
  · obtain ⟨a, many, bs, rfl, hW, q⟩ := h
    refine ⟨_, pss_one (ps_ret (pe_tup (pa_cons (pe_ix ix_tup (pv 0) pe_int (fun _ _ => rfl)) (pa_cons (pe_callTy call_tuple_of (by rfl) mT PyProof.Rows.boot_tuple (pa_cons
      (pe_callB (cr_sorted3 hr.units) (by rfl) mS PyProof.Rows.boot_sorted (pa_cons
        (pe_lc (own := [("moment", 1), ("one", 2), ("other", 3)]) (g := gTup K 3 (gCons (gName 1) (gCons (gName 2) (gCons (gName 3) gNil)))) (tt := tYes) rfl scTurned.nd (pi_tup (pe_ix ix_tup (pv 0) pe_int (fun _ _ => rfl)))
          (blkOk_by (N := ["web", "moment", "one", "other"]) (sc := defScope sTurned) (by decide +kernel))
          (fun _ _ _ _ _ => pg_tup rfl (pgs_cons (pg_name (i := 1) scTurned.nd rfl (Or.inl rfl)) (pgs_cons (pg_name (i := 2) scTurned.nd rfl (Or.inl rfl)) (pgs_cons (pg_name (i := 3) scTurned.nd rfl (Or.inl rfl)) pgs_nil))))
          (fun _ _ _ _ _ => pts_nil)
          (fun _ _ _ _ _ => pe_tup (pa_cons (pe_op op_sub pe_int (pv 1)) (pa_cons (pv 2) (pa_cons (pv 3) pa_nil)))))
        pa_nil)) pa_nil)) pa_nil)))), ?_⟩
    have hW0 := hW
    obtain ⟨⟨t, h1, h2⟩, h3, h4, h5⟩ := hW
    refine ⟨.ref a, rfl, a, _, 0, .int (many : Nat), rfl, rfl, SqT.of h1, rfl, ?_⟩
    refine ⟨.ref a, rfl, a, _, 1, .ref t, rfl, rfl, SqT.of h1, rfl, t, rfl, ⟨_, SqT.of h2⟩, fun D hD => ?_⟩
    refine lc_tup (K := K) (a := t) (xs := refs bs) (fun i H1 => Same H H1 ∧ ∃ cs : List (Addr × Stp), H1 D = some (.lst (refs cs)) ∧ At3 H1 cs ∧ dat cs = ((dat bs).take i).map tn)
      ⟨same_new hD, [], upd_same, (fun b hb => by cases hb), rfl⟩ (fun i H1 _ ⟨sm, _⟩ => SqT.of (sm _ _ h2)) ?_ ?_
    · rintro i x H1 hx ⟨sm, cs, hd, hc, he⟩
      obtain ⟨b, hb, rfl⟩ := refs_get hx
      have hbm := List.mem_of_getElem? hb
      have h3' := sm _ _ (h3 b hbm)
      have hlen : cs.length ≤ 24 := by
        have e := congrArg List.length he
        rw [List.length_map, List.length_map, List.length_take, List.length_map] at e
        omega
      refine ⟨b.1, stpV b.2, rfl, SqT.of h3', rfl, _, _, rfl, _, _, rfl, _, _, rfl, rfl, ?_⟩
      refine ⟨rfl, .int b.2.1, rfl, 0, b.2.1, rfl, rfl, .int (b.2.2.1 : Nat), rfl, .int (b.2.2.2 : Nat), rfl, (by show 3 ≤ sizeLine; decide), fun p hp => ?_⟩
      refine ⟨refs cs, at_new hd hp, by rw [refs_length]; exact small1000 (by omega), same_put (same_put sm (sm.free hp)) hD, cs ++ [(p, tn b.2)], ?_, fun c hc' => ?_, ?_⟩
      · rw [upd_same, refs_append]
        rfl
      · have npD : p ≠ D := fun e => by rw [e, hd] at hp; cases hp
        rcases List.mem_append.mp hc' with hc' | hc'
        · have hne : c.1 ≠ D := ne_of (hc c hc') hd (by intro z; cases z)
          exact at_ne (at_new (hc c hc') hp) hne
        · have e : c = (p, tn b.2) := by simpa using hc'
          subst e
          refine at_ne ?_ npD
          rw [upd_same]
          show some (HO.tup [V.int (0 - b.2.1), V.int (b.2.2.1 : Nat), V.int (b.2.2.2 : Nat)]) = some (HO.tup [V.int (-b.2.1), V.int (b.2.2.1 : Nat), V.int (b.2.2.2 : Nat)])
          rw [Int.zero_sub]
      · show ((cs ++ [(p, tn b.2)]).map (·.2)) = _
        rw [List.map_append, List.take_add_one, List.getElem?_map, hb, List.map_append]
        show dat cs ++ _ = _
        rw [he]
        rfl
    · rintro H1 ⟨sm, cs, hd, hc, he⟩
      rw [refs_length, List.take_of_length_le (by rw [List.length_map]; exact Nat.le_refl _)] at he
      have hlen : cs.length = bs.length := by
        have e := congrArg List.length he
        rw [List.length_map, List.length_map, List.length_map] at e
        exact e
      refine ⟨D, cs, rfl, SqL.of hd, hc, by omega, fun bs' p hp hw hpn => ?_⟩
      have s2 : Same H1 (upd H1 p (.lst (refs bs'))) := same_new hpn
      refine ⟨p, _, rfl, .inl ⟨SqL.of upd_same, fun l hl => ?_⟩⟩
      have s3 := same_new (o := .tup (refs bs')) hl
      refine ⟨(by show 2 ≤ sizeLine; decide), fun r hr' => ?_⟩
      have s4 := same_new (o := .tup [V.int (many : Nat), V.ref l]) hr'
      have hmem : ∀ b, b ∈ bs' ↔ b ∈ cs := fun b => hp.mem_iff
      refine q _ r bs' (((sm.trans s2).trans s3).trans s4) ⟨⟨l, upd_same, s4 _ _ upd_same⟩, fun b hb => s4 _ _ (s3 _ _ (s2 _ _ (hc b ((hmem b).mp hb)))), fun b hb => ?_, by rw [hp.length_eq]; omega⟩ (turned_of fun x => ?_)
      · have hx : b.2 ∈ dat cs := List.mem_map.mpr ⟨b, (hmem b).mp hb, rfl⟩
        rw [he] at hx
        obtain ⟨y, hy, e⟩ := List.mem_map.mp hx
        obtain ⟨z, hz, e2⟩ := List.mem_map.mp hy
        have := h4 z hz
        subst e2
        rw [← e]
        exact this
      · rw [← he]
        exact (hp.map (·.2)).mem_iff
end
end WM

namespace WM
open PySem PySem.Spec PyProof.Rows L2
def dbl (s : Stp) : List Stp := [(s.1, s.2.1, s.2.2), (s.1, s.2.2, s.2.1)]
theorem mem_dbl {ms : List Stp} {x : Stp} : x ∈ ms.flatMap dbl ↔ IsStp ms x.1 x.2.1 x.2.2 := by
  obtain ⟨t, u, v⟩ := x
  constructor
  · intro h
    obtain ⟨⟨a, b, c⟩, hs, hx⟩ := List.mem_flatMap.mp h
    have hx : (t, u, v) ∈ ([(a, b, c), (a, c, b)] : List Stp) := hx
    rcases List.mem_cons.mp hx with e | hx
    · cases e; exact .inl hs
    · rcases List.mem_cons.mp hx with e | hx
      · cases e; exact .inr hs
      · cases hx
  · rintro (h | h)
    · exact List.mem_flatMap.mpr ⟨_, h, List.mem_cons_self⟩
    · exact List.mem_flatMap.mpr ⟨_, h, List.mem_cons_of_mem _ List.mem_cons_self⟩
theorem dbl_len (ms : List Stp) : (ms.flatMap dbl).length = 2 * ms.length := by
  induction ms with
  | nil => rfl
  | cons a r ih => rw [List.flatMap_cons, List.length_append, ih, List.length_cons]; show 2 + _ = _; omega
theorem canGo_no {r first : Int} {st : Nat} {cl : List (Option Int)} {x : Stp} (h : ¬ x.2.1 = st) (e : clk cl x.2.1 = none) : canGo r first st cl x = false := by
  unfold canGo
  rw [if_neg h, e]
theorem canGo_yes {r first c : Int} {st : Nat} {cl : List (Option Int)} {x : Stp} (h : ¬ x.2.1 = st) (e : clk cl x.2.1 = some c) : canGo r first st cl x = decide (c + r ≤ x.1) := by
  unfold canGo
  rw [if_neg h, e]
theorem sooner_no {st : Nat} {cl : List (Option Int)} {x : Stp} (h : ¬ x.2.2 = st) (e : clk cl x.2.2 = none) : sooner st cl x = true := by
  unfold sooner
  rw [if_neg h, e]
theorem sooner_yes {c : Int} {st : Nat} {cl : List (Option Int)} {x : Stp} (h : ¬ x.2.2 = st) (e : clk cl x.2.2 = some c) : sooner st cl x = decide (x.1 < c) := by
  unfold sooner
  rw [if_neg h, e]
section
variable {P : Program} {w : World} {K : PySem.W.Frag} {mg : Str → Option Value} {base : Heap}
/-! ### steps_of -/
theorem scSteps : FnScope ["web", "found", "moment", "one", "other"] ["web"] (defScope sSteps) := ⟨rfl, rfl, rfl, by decide +kernel, rfl, by decide +kernel, by decide +kernel⟩
def spSteps : Sp := fun vs H Q _ => ∃ (a : Addr) (many : Nat) (bs : List (Addr × Stp)), vs = [.ref a] ∧ WebAt H a many bs ∧
  ∀ (H' : Hp) (p : Addr) (ss : List (Addr × Stp)), Same H H' → H p = none → H' p = some (.lst (refs ss)) → At3 H' ss → (∀ x, x ∈ dat ss ↔ IsStp (dat bs) x.1 x.2.1 x.2.2) → (dat ss).Pairwise (fun x y => x.1 ≤ y.1) → ss.length ≤ 48 → Q (.ref p) H'
theorem ok_steps {f : Addr} {fd : FuncData} {k : Nat} (F : Fun K "steps_of" "steps_of" sSteps f fd) (mS : mg "sorted" = none) : FnOk P w K mg base CX0 (k + 1) f fd ["web"] spSteps := by
  refine F.ok scSteps (fun vs H Q E h => ?_) (fun cdv A outer s H vs Q E hr h => ?_)
  · obtain ⟨a, many, bs, rfl, _⟩ := h
    rfl
  · obtain ⟨a, many, bs, rfl, hW, q⟩ := h
    refine ⟨_, pss_cons (ps_set (i := 1) scSteps.nd rfl (Or.inl rfl) (pe_lst pa_nil))
      (pss_cons (ps_for PassesOwn.never rfl (pi_tup (pe_ix ix_tup (pv 0) pe_int (fun _ _ => rfl)))
          (pg_tup rfl (pgs_cons (pg_name (i := 2) scSteps.nd rfl (Or.inl rfl)) (pgs_cons (pg_name (i := 3) scSteps.nd rfl (Or.inl rfl)) (pgs_cons (pg_name (i := 4) scSteps.nd rfl (Or.inl rfl)) pgs_nil))))
          (pss_one (ps_expr (pe_bm PySem.F.plainAttrs_list PySem.F.slot_list_extend PySem.F.type_list_extend mt_extend (pv 1) (pa_cons
            (pe_lst (pa_cons (pe_tup (pa_cons (pv 2) (pa_cons (pv 3) (pa_cons (pv 4) pa_nil)))) (pa_cons (pe_tup (pa_cons (pv 2) (pa_cons (pv 4) (pa_cons (pv 3) pa_nil)))) pa_nil))) pa_nil)))))
      (pss_one (ps_ret (pe_callB (cr_sorted3 hr.units) (by rfl) mS PyProof.Rows.boot_sorted (pa_cons (pv 1) pa_nil))))), ?_⟩
    obtain ⟨⟨t, h1, h2⟩, h3, h4, h5⟩ := hW
    refine ⟨Nat.zero_le _, fun o no => ?_⟩
    have s0 : Same H (upd H o (.lst [])) := same_new no
    refine ⟨.ref a, rfl, a, _, 1, .ref t, rfl, rfl, SqT.of (s0 _ _ h1), rfl, t, rfl, ⟨_, SqT.of (s0 _ _ h2)⟩, ?_⟩
    refine for_tup (K := K) (a := t) (xs := refs bs) (fun i σ H1 => Same H H1 ∧ ∃ (y2 y3 y4 : Option V) (cs : List (Addr × Stp)), σ = [some (.ref a), some (.ref o), y2, y3, y4] ∧ H1 o = some (.lst (refs cs)) ∧ At3 H1 cs ∧ dat cs = ((dat bs).take i).flatMap dbl)
      ⟨s0, none, none, none, [], rfl, upd_same, (fun b hb => by cases hb), rfl⟩ (fun i σ H1 _ ⟨sm, _⟩ => SqT.of (sm _ _ h2)) ?_ ?_
    · rintro i x σ H1 hx ⟨sm, y2, y3, y4, cs, rfl, hd, hc, he⟩
      obtain ⟨b, hb, rfl⟩ := refs_get hx
      have hbm := List.mem_of_getElem? hb
      have h3' := sm _ _ (h3 b hbm)
      have hlen : cs.length ≤ 48 := by
        have e := congrArg List.length he
        rw [List.length_map, dbl_len, List.length_take, List.length_map] at e
        omega
      refine ⟨b.1, stpV b.2, rfl, SqT.of h3', rfl, _, _, rfl, _, _, rfl, _, _, rfl, rfl, ?_⟩
      refine ⟨.ref o, rfl, .inl ⟨rfl, _, .inl (.inl hd)⟩, _, rfl, _, rfl, _, rfl, (by show 3 ≤ sizeLine; decide), fun p np => ?_⟩
      refine ⟨_, rfl, _, rfl, _, rfl, (by show 3 ≤ sizeLine; decide), fun p2 np2 => ?_⟩
      refine ⟨(by show 2 ≤ sizeLine; decide), fun l nl => ?_⟩
      have sA := same_new (o := .tup [V.int b.2.1, V.int (b.2.2.1 : Nat), V.int (b.2.2.2 : Nat)]) np
      have sB := same_new (o := .tup [V.int b.2.1, V.int (b.2.2.2 : Nat), V.int (b.2.2.1 : Nat)]) np2
      have sC := same_new (o := .lst [V.ref p, V.ref p2]) nl
      have sABC := (sA.trans sB).trans sC
      refine ⟨o, l, refs cs, _, rfl, rfl, sABC _ _ hd, upd_same, ?_, ?_⟩
      · rw [refs_length]
        exact big (by show cs.length + 2 ≤ 1000; omega)
      · have np_o : p ≠ o := fun e => by rw [e, hd] at np; cases np
        have np2_o : p2 ≠ o := fun e => by rw [e, sA _ _ hd] at np2; cases np2
        refine ⟨same_put (sm.trans sABC) no, _, _, _, cs ++ [(p, (b.2.1, b.2.2.1, b.2.2.2)), (p2, (b.2.1, b.2.2.2, b.2.2.1))], rfl, ?_, fun c hc' => ?_, ?_⟩
        · rw [upd_same, refs_append]
          rfl
        · rcases List.mem_append.mp hc' with hc' | hc'
          · exact at_ne (sABC _ _ (hc c hc')) (ne_of (hc c hc') hd (by intro z; cases z))
          · rcases List.mem_cons.mp hc' with e | hc'
            · subst e
              exact at_ne (sC _ _ (sB _ _ upd_same)) np_o
            · have e : c = (p2, (b.2.1, b.2.2.2, b.2.2.1)) := by simpa using hc'
              subst e
              exact at_ne (sC _ _ upd_same) np2_o
        · show ((cs ++ _).map (·.2)) = _
          rw [List.map_append, List.take_add_one, List.getElem?_map, hb, List.flatMap_append]
          show dat cs ++ _ = _
          rw [he]
          rfl
    · rintro σ H1 ⟨sm, y2, y3, y4, cs, rfl, hd, hc, he⟩
      rw [refs_length, List.take_of_length_le (by rw [List.length_map]; exact Nat.le_refl _)] at he
      have hlen : cs.length ≤ 48 := by
        have e := congrArg List.length he
        rw [List.length_map, dbl_len, List.length_map] at e
        omega
      refine ⟨.ref o, rfl, o, cs, rfl, SqL.of hd, hc, by omega, fun bs' p hp hw hpn => ?_⟩
      have s2 := same_new (o := .lst (refs bs')) hpn
      refine q _ p bs' (sm.trans s2) (sm.free hpn) upd_same (fun b hb => s2 _ _ (hc b (hp.mem_iff.mp hb))) (fun x => ?_) (List.pairwise_map.mpr hw) (by rw [hp.length_eq]; exact hlen)
      rw [(hp.map (·.2)).mem_iff]
      show x ∈ dat cs ↔ _
      rw [he]
      exact mem_dbl
/-! ### can_go -/
theorem scCan : FnScope ["clocks", "rest", "start", "first", "step"] ["clocks", "rest", "start", "first", "step"] (defScope sCan) := ⟨rfl, rfl, rfl, by decide +kernel, rfl, by decide +kernel, by decide +kernel⟩
def spCan : Sp := fun vs H Q _ => ∃ (a b : Addr) (r first : Int) (st : Nat) (cl : List (Option Int)) (x : Stp), vs = [.ref a, .int r, .int (st : Nat), .int first, .ref b] ∧ H a = some (.lst (cl.map vO)) ∧ H b = some (.tup (stpV x)) ∧ x.2.1 < cl.length ∧ Q (.bl (canGo r first st cl x)) H
theorem cl_get {cl : List (Option Int)} {v : Nat} (h : v < cl.length) : ∃ o, (cl.map vO)[v]? = some (vO o) ∧ clk cl v = o := by
  refine ⟨cl[v], ?_, ?_⟩
  · rw [List.getElem?_map, List.getElem?_eq_getElem h]; rfl
  · unfold clk; rw [List.getElem?_eq_getElem h]; rfl
theorem ok_can {f : Addr} {fd : FuncData} {k : Nat} (F : Fun K "can_go" "can_go" sCan f fd) : FnOk P w K mg base CX0 (k + 1) f fd ["clocks", "rest", "start", "first", "step"] spCan := by
  refine F.ok scCan (fun vs H Q E h => ?_) (fun cdv A outer s H vs Q E hr h => ?_)
  · obtain ⟨a, b, r, first, st, cl, x, rfl, _⟩ := h
    rfl
  · obtain ⟨a, b, r, first, st, cl, x, rfl, hA, hB, hlt, q⟩ := h
    refine ⟨_, pss_cons (ps_if (pt_cmpR op_eq (pe_ix ix_tup (pv 4) pe_int (fun _ _ => rfl)) (pv 2) (nomark _)) (pss_one (ps_ret (pe_cmpR op_ge (pe_ix ix_tup (pv 4) pe_int (fun _ _ => rfl)) (pv 3) (nomark _)))) pss_nil)
      (pss_one (ps_ret (pe_and (pe_cmpR op_notN (pe_ix ix_list (pv 0) (pe_ix ix_tup (pv 4) pe_int (fun _ _ => rfl)) (fun _ _ => rfl)) pe_non (nomark _))
        (pe_one (pe_cmpR op_le (pe_op op_add (pe_ix ix_list (pv 0) (pe_ix ix_tup (pv 4) pe_int (fun _ _ => rfl)) (fun _ _ => rfl)) (pv 1)) (pe_ix ix_tup (pv 4) pe_int (fun _ _ => rfl)) (nomark _)))))), ?_⟩
    refine ⟨.ref b, rfl, b, _, 1, .int (x.2.1 : Nat), rfl, rfl, SqT.of hB, rfl, .int (st : Nat), rfl, rfl, _, rfl, ite2 (fun e => ?_) (fun e => ?_)⟩
    · have e1 : x.2.1 = st := by have := V.int.inj (of_decide_eq_true e); omega
      refine ⟨.ref b, rfl, b, _, 0, .int x.1, rfl, rfl, SqT.of hB, rfl, .int first, rfl, _, _, rfl, rfl, ?_⟩
      have e2 : canGo r first st cl x = decide (first ≤ x.1) := by unfold canGo; rw [if_pos e1]
      rw [e2] at q
      exact q
    · have e1 : ¬ x.2.1 = st := fun z => e (decide_eq_true (by rw [z]))
      obtain ⟨o, ho, hk⟩ := cl_get hlt
      refine ⟨.ref a, rfl, .ref b, rfl, b, _, 1, .int (x.2.1 : Nat), rfl, rfl, SqT.of hB, rfl, a, _, (x.2.1 : Nat), vO o, rfl, rfl, SqL.of hA, atI_nat ho, rfl, _, rfl, ?_⟩
      cases o with
      | none =>
        rw [canGo_no e1 hk] at q
        exact iteF q
      | some c =>
        rw [canGo_yes e1 hk] at q
        refine iteT ⟨.ref a, rfl, .ref b, rfl, b, _, 1, .int (x.2.1 : Nat), rfl, rfl, SqT.of hB, rfl, a, _, (x.2.1 : Nat), vO (some c), rfl, rfl, SqL.of hA, atI_nat ho, .int r, rfl, c, r, rfl, rfl,
          .ref b, rfl, b, _, 0, .int x.1, rfl, rfl, SqT.of hB, rfl, _, _, rfl, rfl, q⟩
/-! ### is_sooner -/
theorem scSooner : FnScope ["clocks", "start", "step"] ["clocks", "start", "step"] (defScope sSooner) := ⟨rfl, rfl, rfl, by decide +kernel, rfl, by decide +kernel, by decide +kernel⟩
def spSooner : Sp := fun vs H Q _ => ∃ (a b : Addr) (st : Nat) (cl : List (Option Int)) (x : Stp), vs = [.ref a, .int (st : Nat), .ref b] ∧ H a = some (.lst (cl.map vO)) ∧ H b = some (.tup (stpV x)) ∧ x.2.2 < cl.length ∧ Q (.bl (sooner st cl x)) H
theorem ok_sooner {f : Addr} {fd : FuncData} {k : Nat} (F : Fun K "is_sooner" "is_sooner" sSooner f fd) : FnOk P w K mg base CX0 (k + 1) f fd ["clocks", "start", "step"] spSooner := by
  refine F.ok scSooner (fun vs H Q E h => ?_) (fun cdv A outer s H vs Q E hr h => ?_)
  · obtain ⟨a, b, st, cl, x, rfl, _⟩ := h
    rfl
  · obtain ⟨a, b, st, cl, x, rfl, hA, hB, hlt, q⟩ := h
    refine ⟨_, pss_cons (ps_if (pt_cmpR op_eq (pe_ix ix_tup (pv 2) pe_int (fun _ _ => rfl)) (pv 1) (nomark _)) (pss_one (ps_ret pe_bl)) pss_nil)
      (pss_one (ps_ret (pe_or (pe_cmpR op_isN (pe_ix ix_list (pv 0) (pe_ix ix_tup (pv 2) pe_int (fun _ _ => rfl)) (fun _ _ => rfl)) pe_non (nomark _))
        (pe_one (pe_cmpR op_lt (pe_ix ix_tup (pv 2) pe_int (fun _ _ => rfl)) (pe_ix ix_list (pv 0) (pe_ix ix_tup (pv 2) pe_int (fun _ _ => rfl)) (fun _ _ => rfl)) (nomark _)))))), ?_⟩
    refine ⟨.ref b, rfl, b, _, 2, .int (x.2.2 : Nat), rfl, rfl, SqT.of hB, rfl, .int (st : Nat), rfl, rfl, _, rfl, ite2 (fun e => ?_) (fun e => ?_)⟩
    · have e1 : x.2.2 = st := by have := V.int.inj (of_decide_eq_true e); omega
      have e2 : sooner st cl x = false := by unfold sooner; rw [if_pos e1]
      rw [e2] at q
      exact q
    · have e1 : ¬ x.2.2 = st := fun z => e (decide_eq_true (by rw [z]))
      obtain ⟨o, ho, hk⟩ := cl_get hlt
      refine ⟨.ref a, rfl, .ref b, rfl, b, _, 2, .int (x.2.2 : Nat), rfl, rfl, SqT.of hB, rfl, a, _, (x.2.2 : Nat), vO o, rfl, rfl, SqL.of hA, atI_nat ho, rfl, _, rfl, ?_⟩
      cases o with
      | none =>
        rw [sooner_no e1 hk] at q
        exact iteT q
      | some c =>
        rw [sooner_yes e1 hk] at q
        refine iteF ⟨.ref b, rfl, b, _, 0, .int x.1, rfl, rfl, SqT.of hB, rfl, .ref a, rfl, .ref b, rfl, b, _, 2, .int (x.2.2 : Nat), rfl, rfl, SqT.of hB, rfl, a, _, (x.2.2 : Nat), vO (some c), rfl, rfl, SqL.of hA, atI_nat ho, _, _, rfl, rfl, q⟩
end
end WM

namespace WM
open PySem PySem.Spec PyProof.Rows L2
theorem rep_one {α : Type} (x : α) (n : Nat) : (List.replicate n [x]).flatten = List.replicate n x := by
  induction n with
  | zero => rfl
  | succ n ih => rw [List.replicate_succ, List.flatten_cons, ih, List.replicate_succ]; rfl
theorem ixN_nat {n j : Nat} (h : j < n) : ixN n (j : Nat) = some j := by
  unfold ixN
  rw [if_pos (by omega), if_pos (by omega)]
  congr 1
theorem map_set {cl : List (Option Int)} {j : Nat} {t : Int} : (cl.map vO).set j (.int t) = (cl.set j (some t)).map vO := by
  rw [List.map_set]
  rfl
section
variable {P : Program} {w : World} {K : PySem.W.Frag} {mg : Str → Option Value} {base : Heap}
/-! ### soonest_tree -/
theorem scTree : FnScope ["web", "rest", "start", "first", "clocks", "tree", "steps", "changed", "step"] ["web", "rest", "start", "first"] (defScope sTree) := ⟨rfl, rfl, rfl, by decide +kernel, rfl, by decide +kernel, by decide +kernel⟩
def spTree : Sp := fun vs H Q _ => ∃ (a : Addr) (many : Nat) (bs : List (Addr × Stp)) (r first : Int) (st : Nat), vs = [.ref a, .int r, .int (st : Nat), .int first] ∧ WebAt H a many bs ∧ st < many ∧ many ≤ 7 ∧ 0 ≤ r ∧
  ∀ (H' : Hp) (p cA tA : Addr) (cl : List (Option Int)), Same H H' → H' p = some (.tup [.ref cA, .ref tA]) → H' cA = some (.lst (cl.map vO)) → Good (dat bs) r many st first cl → Q (.ref p) H'
structure Own (H H1 : Hp) (cA tA sA : Addr) (many : Nat) (sa : List (Addr × Stp)) (cl : List (Option Int)) (tr : List V) : Prop where
  sm : Same H H1
  c : H1 cA = some (.lst (cl.map vO))
  t : H1 tA = some (.lst tr)
  tl : tr.length = many
  s : H1 sA = some (.lst (refs sa))
  x : At3 H1 sa
theorem ok_tree {f fS fO fC : Addr} {fd fdS fdO fdC : FuncData} (F : Fun K "soonest_tree" "soonest_tree" sTree f fd) (FS : Fun K "steps_of" "steps_of" sSteps fS fdS) (bS : Binds K fdS ["web"] []) (gS : mg "steps_of" = some (.ref fS))
    (FO : Fun K "is_sooner" "is_sooner" sSooner fO fdO) (bO : Binds K fdO ["clocks", "start", "step"] []) (gO : mg "is_sooner" = some (.ref fO))
    (FC : Fun K "can_go" "can_go" sCan fC fdC) (bC : Binds K fdC ["clocks", "rest", "start", "first", "step"] []) (gC : mg "can_go" = some (.ref fC)) (mS : mg "sorted" = none) :
    FnOk P w K mg base CX0 2 f fd ["web", "rest", "start", "first"] spTree := by
  have GS : FnOk P w K mg base CX0 1 fS fdS ["web"] spSteps := ok_steps FS mS
  have GO : FnOk P w K mg base CX0 1 fO fdO ["clocks", "start", "step"] spSooner := ok_sooner FO
  have GC : FnOk P w K mg base CX0 1 fC fdC ["clocks", "rest", "start", "first", "step"] spCan := ok_can FC
  refine F.ok scTree (fun vs H Q E h => ?_) (fun cdv A outer s H vs Q E hr h => ?_)
  · obtain ⟨a, many, bs, r, first, st, rfl, _⟩ := h
    rfl
  · obtain ⟨a, many, bs, r, first, st, rfl, hW, hst, h7, hr0, q⟩ := h
    refine ⟨_, pss_cons (ps_set (i := 4) scTree.nd rfl (Or.inl rfl) (pe_op op_rep (pe_lst (pa_cons pe_non pa_nil)) (pe_ix ix_tup (pv 0) pe_int (fun _ _ => rfl))))
      (pss_cons (ps_asg (pv 3) (pg_sub (pv 4) (pv 2) set_list))
      (pss_cons (ps_set (i := 5) scTree.nd rfl (Or.inl rfl) (pe_op op_rep (pe_lst (pa_cons pe_non pa_nil)) (pe_ix ix_tup (pv 0) pe_int (fun _ _ => rfl))))
      (pss_cons (ps_set (i := 6) scTree.nd rfl (Or.inl rfl) (pe_call GS hr (by rfl) gS FS.kp bS .nil pass0 (pa_cons (pv 0) pa_nil)))
      (pss_cons (ps_set (i := 7) scTree.nd rfl (Or.inl rfl) pe_bl)
      (pss_cons (ps_while PassesOwn.never (pt_val (pv 7))
        (pss_cons (ps_set (i := 7) scTree.nd rfl (Or.inl rfl) pe_bl)
        (pss_one (ps_for PassesOwn.never rfl (pi_list (pv 6)) (pg_name (i := 8) scTree.nd rfl (Or.inl rfl))
          (pss_one (ps_if (PW.pt (pw_and (pt_val (pe_call GO hr (by rfl) gO FO.kp bO .nil pass0 (pa_cons (pv 4) (pa_cons (pv 2) (pa_cons (pv 8) pa_nil)))))
              (pw_and1 (pt_val (pe_call GC hr (by rfl) gC FC.kp bC .nil pass0 (pa_cons (pv 4) (pa_cons (pv 1) (pa_cons (pv 2) (pa_cons (pv 3) (pa_cons (pv 8) pa_nil))))))))))
            (pss_cons (ps_asg (pe_ix ix_tup (pv 8) pe_int (fun _ _ => rfl)) (pg_sub (pv 4) (pe_ix ix_tup (pv 8) pe_int (fun _ _ => rfl)) set_list))
            (pss_cons (ps_asg (pv 8) (pg_sub (pv 5) (pe_ix ix_tup (pv 8) pe_int (fun _ _ => rfl)) set_list))
            (pss_one (ps_set (i := 7) scTree.nd rfl (Or.inl rfl) (pe_cmpR op_eq (pv 1) pe_int (nomark _)))))) pss_nil))))))
      (pss_one (ps_ret (pe_tup (pa_cons (pv 4) (pa_cons (pv 5) pa_nil)))))))))), ?_⟩
    have hW0 := hW
    obtain ⟨⟨t, h1, h2⟩, h3, h4, h5⟩ := hW
    have hsz : ([V.non] : List V).length * (((many : Nat) : Int)).toNat ≤ sizeLine := big (by show 1 * (((many : Nat) : Int)).toNat ≤ 1000; omega)
    -- clocks = [None] * web[0]
    refine ⟨(by show 1 ≤ sizeLine; decide), fun l0 n0 => ?_⟩
    have s0 := same_new (o := .lst [V.non]) n0
    refine ⟨.ref a, rfl, a, _, 0, .int (many : Nat), rfl, rfl, SqT.of (s0 _ _ h1), rfl, l0, (many : Nat), _, rfl, rfl, upd_same, by omega, by omega, hsz, fun cA nC => ?_⟩
    rw [rep_one, Int.toNat_natCast]
    have s1 := s0.trans (same_new (o := .lst (List.replicate many V.non)) nC)
    -- clocks[start] = first
    refine ⟨.int first, rfl, .ref cA, rfl, .int (st : Nat), rfl, cA, _, (st : Nat), st, rfl, rfl, upd_same, ixN_nat (by rw [List.length_replicate]; exact hst), ?_⟩
    have nC0 : H cA = none := s0.free nC
    have s2 : Same H (upd (upd (upd H l0 (.lst [V.non])) cA (.lst (List.replicate many V.non))) cA (.lst ((List.replicate many V.non).set st (.int first)))) := same_put s1 nC0
    generalize eH2 : (upd (upd (upd H l0 (.lst [V.non])) cA (.lst (List.replicate many V.non))) cA (.lst ((List.replicate many V.non).set st (.int first)))) = H2 at s2 ⊢
    have c2 : H2 cA = some (.lst (((List.replicate many none).set st (some first)).map vO)) := by
      rw [← eH2, upd_same, ← map_set, List.map_replicate]
      rfl
    -- tree = [None] * web[0]
    refine ⟨(by show 1 ≤ sizeLine; decide), fun l1 n1 => ?_⟩
    have s3 := same_new (o := .lst [V.non]) n1
    refine ⟨.ref a, rfl, a, _, 0, .int (many : Nat), rfl, rfl, SqT.of (s3 _ _ (s2 _ _ h1)), rfl, l1, (many : Nat), _, rfl, rfl, upd_same, by omega, by omega, hsz, fun tA nT => ?_⟩
    rw [rep_one, Int.toNat_natCast]
    have s4 := s3.trans (same_new (o := .lst (List.replicate many V.non)) nT)
    have c4 := s4 _ _ c2
    have nT0 : H tA = none := (s2.trans s3).free nT
    have ct : cA ≠ tA := fun e => by rw [← e, s3 _ _ c2] at nT; cases nT
    generalize eH4 : (upd (upd H2 l1 (.lst [V.non])) tA (.lst (List.replicate many V.non))) = H4 at s4 c4 ⊢
    have t4 : H4 tA = some (.lst (List.replicate many V.non)) := by rw [← eH4, upd_same]
    have s24 := s2.trans s4
    -- steps = steps_of(web)
    refine ⟨.ref a, rfl, a, many, bs, rfl, hW0.same s24, fun H5 sA sa s5 nS5 hS5 x5 hin hsrt hl48 => ?_⟩
    have s25 := s24.trans s5
    have nS0 : H sA = none := s24.free nS5
    have c5 := s5 _ _ c4
    have t5 := s5 _ _ t4
    have cs : cA ≠ sA := fun e => by rw [← e, c4] at nS5; cases nS5
    have ts : tA ≠ sA := fun e => by rw [← e, t4] at nS5; cases nS5
    -- changed = True; while changed
    refine ⟨fun m σ H1 => ∃ (b : Bool) (cl : List (Option Int)) (tr : List V) (y8 : Option V), σ = [some (.ref a), some (.int r), some (.int (st : Nat)), some (.int first), some (.ref cA), some (.ref tA), some (.ref sA), some (.bl b), y8] ∧
        Own H H1 cA tA sA many sa cl tr ∧ Base (dat bs) r many st first cl ∧ (b = false → Quiet r first st (dat sa) cl) ∧ m = 2 * mu st (dat sa) cl + (if b = true then 1 else 0),
      ⟨_, true, _, _, none, rfl, ⟨s25, c5, t5, List.length_replicate .., hS5, x5⟩, base_start hst, (fun e => nomatch e), rfl⟩, ?_⟩
    rintro m σ H6 ⟨b, cl, tr, y8, rfl, O, B, hQ, hm⟩
    refine ⟨.bl b, rfl, b, rfl, ite2 (fun eb => ?_) (fun eb => ?_)⟩
    · subst eb
      refine ⟨fun σ' H' => ∃ (b : Bool) (cl' : List (Option Int)) (tr' : List V) (y8 : Option V), σ' = [some (.ref a), some (.int r), some (.int (st : Nat)), some (.int first), some (.ref cA), some (.ref tA), some (.ref sA), some (.bl b), y8] ∧
        Own H H' cA tA sA many sa cl' tr' ∧ Pass (dat bs) r many st first (dat sa) cl (dat sa).length cl' b, ?_, ?_⟩
      · rintro σ' H' ⟨b', cl', tr', y8', rfl, O', Ps⟩
        refine ⟨_, ?_, b', cl', tr', y8', rfl, O', Ps.base, (fun e => ?_), rfl⟩
        · rw [hm, if_pos rfl]
          have := Ps.le
          cases b' with
          | true => have := Ps.lt rfl; rw [if_pos rfl]; omega
          | false => rw [if_neg Bool.false_ne_true]; omega
        · subst e
          exact Ps.done hr0
      · -- changed = False; for step in steps
        refine ⟨.ref sA, rfl, sA, rfl, ⟨_, SqL.of O.s⟩, ?_⟩
        refine for_list (K := K) (a := sA) (xs := refs sa) (fun i σ H7 => ∃ (b : Bool) (cl' : List (Option Int)) (tr' : List V) (y8 : Option V), σ = [some (.ref a), some (.int r), some (.int (st : Nat)), some (.int first), some (.ref cA), some (.ref tA), some (.ref sA), some (.bl b), y8] ∧
          Own H H7 cA tA sA many sa cl' tr' ∧ Pass (dat bs) r many st first (dat sa) cl i cl' b)
          ⟨false, cl, tr, y8, rfl, O, Pass.start B⟩ (fun i σ H7 _ ⟨_, _, _, _, _, O', _⟩ => SqL.of O'.s) ?_ ?_
        · rintro i x σ H7 hx ⟨b', cl', tr', y8', rfl, O', Ps⟩
          obtain ⟨y, hy, rfl⟩ := refs_get hx
          have hym := List.mem_of_getElem? hy
          have hd : (dat sa)[i]? = some y.2 := by rw [List.getElem?_map, hy]; rfl
          have hyx := O'.x y hym
          have hstp : IsStp (dat bs) y.2.1 y.2.2.1 y.2.2.2 := (hin y.2).mp (List.mem_map.mpr ⟨y, hym, rfl⟩)
          have hbd : y.2.2.1 < many ∧ y.2.2.2 < many := by
            rcases hstp with z | z
            · obtain ⟨c, hc, e⟩ := List.mem_map.mp z
              have := h4 c hc
              rw [e] at this
              exact this
            · obtain ⟨c, hc, e⟩ := List.mem_map.mp z
              have := h4 c hc
              rw [e] at this
              exact ⟨this.2, this.1⟩
          have hcl := Ps.base.len
          refine ⟨_, rfl, _, rfl, _, rfl, cA, y.1, st, cl', y.2, rfl, O'.c, hyx, by omega, _, rfl, ite2 (fun e1 => ?_) (fun e1 => ?_)⟩
          · refine ⟨_, rfl, _, rfl, _, rfl, _, rfl, _, rfl, cA, y.1, r, first, st, cl', y.2, rfl, O'.c, hyx, by omega, _, rfl, ite2 (fun e2 => ?_) (fun e2 => ?_)⟩
            · have hh : hit r first st cl' y.2 = true := by unfold hit; rw [e1, e2]; rfl
              -- clocks[step[2]] = step[0]
              refine ⟨.ref y.1, rfl, y.1, _, 0, .int y.2.1, rfl, rfl, SqT.of hyx, rfl, .ref cA, rfl, .ref y.1, rfl, y.1, _, 2, .int (y.2.2.2 : Nat), rfl, rfl, SqT.of hyx, rfl, cA, _, (y.2.2.2 : Nat), y.2.2.2, rfl, rfl, O'.c, ixN_nat (by rw [List.length_map]; omega), ?_⟩
              have ny : y.1 ≠ cA := ne_of hyx O'.c (by intro z; cases z)
              have ny2 : y.1 ≠ tA := ne_of hyx O'.t (by intro z; cases z)
              have hyx2 : (upd H7 cA (.lst ((cl'.map vO).set y.2.2.2 (.int y.2.1)))) y.1 = some (.tup (stpV y.2)) := at_ne hyx ny
              -- tree[step[2]] = step
              refine ⟨.ref y.1, rfl, .ref tA, rfl, .ref y.1, rfl, y.1, _, 2, .int (y.2.2.2 : Nat), rfl, rfl, SqT.of hyx2, rfl, tA, _, (y.2.2.2 : Nat), y.2.2.2, rfl, rfl, at_ne O'.t ct.symm, ixN_nat (by rw [O'.tl]; omega), ?_⟩
              -- changed = rest == 0
              refine ⟨.int r, rfl, rfl, ?_⟩
              have eb : decide (V.int r = V.int 0) = decide (r = 0) := by
                rw [Bool.eq_iff_iff]; simp
              refine ⟨decide (r = 0), cl'.set y.2.2.2 (some y.2.1), tr'.set y.2.2.2 (.ref y.1), some (.ref y.1), by rw [← eb]; rfl, ⟨same_put (same_put O'.sm nC0) nT0, ?_, upd_same, by rw [List.length_set]; exact O'.tl, ?_, fun c hc => ?_⟩, Ps.yes hr0 hd hh hstp hbd.2 hsrt⟩
              · rw [upd_ne ct, upd_same, map_set]
              · exact at_ne (at_ne O'.s cs.symm) ts.symm
              · have hcx := O'.x c hc
                exact at_ne (at_ne hcx (ne_of hcx O'.c (by intro z; cases z))) (ne_of hcx O'.t (by intro z; cases z))
            · have hh : hit r first st cl' y.2 = false := by unfold hit; rw [Bool.eq_false_iff.mpr e2, Bool.and_false]
              exact ⟨b', cl', tr', _, rfl, O', Ps.no hd hh⟩
          · have hh : hit r first st cl' y.2 = false := by unfold hit; rw [Bool.eq_false_iff.mpr e1, Bool.false_and]
            exact ite2 (fun z => nomatch z) fun _ => ⟨b', cl', tr', _, rfl, O', Ps.no hd hh⟩
        · rintro σ H7 ⟨b', cl', tr', y8', rfl, O', Ps⟩
          rw [refs_length] at Ps
          exact ⟨b', cl', tr', y8', rfl, O', by rw [List.length_map]; exact Ps⟩
    · have eb' : b = false := Bool.eq_false_iff.mpr eb
      refine ⟨.ref cA, rfl, .ref tA, rfl, (by show 2 ≤ sizeLine; decide), fun p np => ?_⟩
      refine q _ p cA tA cl (O.sm.trans (same_new np)) upd_same (at_new O.c np) (good_of hr0 B (hQ eb') fun t u v hs => (hin (t, u, v)).mpr hs)
/-! ### soonest_from -/
theorem scFrom : FnScope ["web", "rest", "start", "first"] ["web", "rest", "start", "first"] (defScope sFrom) := ⟨rfl, rfl, rfl, by decide +kernel, rfl, by decide +kernel, by decide +kernel⟩
def spFrom : Sp := fun vs H Q _ => ∃ (a : Addr) (many : Nat) (bs : List (Addr × Stp)) (r first : Int) (st : Nat), vs = [.ref a, .int r, .int (st : Nat), .int first] ∧ WebAt H a many bs ∧ st < many ∧ many ≤ 7 ∧ 0 ≤ r ∧
  ∀ (H' : Hp) (cA : Addr) (cl : List (Option Int)), Same H H' → H' cA = some (.lst (cl.map vO)) → Good (dat bs) r many st first cl → Q (.ref cA) H'
theorem ok_from {f fT : Addr} {fd fdT : FuncData} (F : Fun K "soonest_from" "soonest_from" sFrom f fd) (FT : Fun K "soonest_tree" "soonest_tree" sTree fT fdT) (bT : Binds K fdT ["web", "rest", "start", "first"] []) (gT : mg "soonest_tree" = some (.ref fT))
    (GT : FnOk P w K mg base CX0 2 fT fdT ["web", "rest", "start", "first"] spTree) : FnOk P w K mg base CX0 3 f fd ["web", "rest", "start", "first"] spFrom := by
  refine F.ok scFrom (fun vs H Q E h => ?_) (fun cdv A outer s H vs Q E hr h => ?_)
  · obtain ⟨a, many, bs, r, first, st, rfl, _⟩ := h
    rfl
  · obtain ⟨a, many, bs, r, first, st, rfl, hW, hst, h7, hr0, q⟩ := h
    refine ⟨_, pss_one (ps_ret (pe_ix ix_tup (pe_call GT hr (by rfl) gT FT.kp bT .nil pass0 (pa_cons (pv 0) (pa_cons (pv 1) (pa_cons (pv 2) (pa_cons (pv 3) pa_nil))))) pe_int (fun _ _ => rfl))), ?_⟩
    refine ⟨_, rfl, _, rfl, _, rfl, _, rfl, a, many, bs, r, first, st, rfl, hW, hst, h7, hr0, fun H' p cA tA cl sm hp hc hg => ?_⟩
    exact ⟨p, _, 0, .ref cA, rfl, rfl, SqT.of hp, rfl, q H' cA cl sm hc hg⟩
end
end WM

namespace WM
open PySem PySem.Spec PyProof.Rows L2
section
variable {P : Program} {w : World} {K : PySem.W.Frag} {mg : Str → Option Value} {base : Heap}
/-! ### best_pairs -/
theorem scBest : FnScope ["web", "rest", "start", "goal", "found", "moment", "comes"] ["web", "rest", "start", "goal"] (defScope sBest) := ⟨rfl, rfl, rfl, by decide +kernel, rfl, by decide +kernel, by decide +kernel⟩
def spBest : Sp := fun vs H Q _ => ∃ (a : Addr) (many : Nat) (bs : List (Addr × Stp)) (r : Int) (st goal : Nat), vs = [.ref a, .int r, .int (st : Nat), .int (goal : Nat)] ∧ WebAt H a many bs ∧ st < many ∧ goal < many ∧ goal ≠ st ∧ many ≤ 7 ∧ 0 ≤ r ∧
  ∀ (H' : Hp) (p : Addr) (ps : List (Addr × (Int × Int))), Same H H' → H' p = some (.lst (refs ps)) → At2 H' ps → Best (dat bs) r st goal (dat ps) → ps.length ≤ 24 → Q (.ref p) H'
theorem ok_best {f fM fF : Addr} {fd fdM fdF : FuncData} (F : Fun K "best_pairs" "best_pairs" sBest f fd) (FM : Fun K "moments_of" "moments_of" sMoments fM fdM) (bM : Binds K fdM ["web"] []) (gM : mg "moments_of" = some (.ref fM))
    (FF : Fun K "soonest_from" "soonest_from" sFrom fF fdF) (bF : Binds K fdF ["web", "rest", "start", "first"] []) (gF : mg "soonest_from" = some (.ref fF)) (GF : FnOk P w K mg base CX0 3 fF fdF ["web", "rest", "start", "first"] spFrom)
    (mS : mg "sorted" = none) (mE : mg "set" = none) : FnOk P w K mg base CX0 4 f fd ["web", "rest", "start", "goal"] spBest := by
  have GM : FnOk P w K mg base CX0 1 fM fdM ["web"] spMoments := ok_moments FM mS mE
  refine F.ok scBest (fun vs H Q E h => ?_) (fun cdv A outer s H vs Q E hr h => ?_)
  · obtain ⟨a, many, bs, r, st, goal, rfl, _⟩ := h
    rfl
  · obtain ⟨a, many, bs, r, st, goal, rfl, hW, hst, hgo, hne, h7, hr0, q⟩ := h
    refine ⟨_, pss_cons (ps_set (i := 4) scBest.nd rfl (Or.inl rfl) (pe_lst pa_nil))
      (pss_cons (ps_for PassesOwn.never rfl (pi_list (pe_revL (pe_call GM (hr.mono (by decide)) (by rfl) gM FM.kp bM .nil pass0 (pa_cons (pv 0) pa_nil)))) (pg_name (i := 5) scBest.nd rfl (Or.inl rfl))
        (pss_cons (ps_set (i := 6) scBest.nd rfl (Or.inl rfl) (pe_ix ix_list (pe_call GF hr (by rfl) gF FF.kp bF .nil pass0 (pa_cons (pv 0) (pa_cons (pv 1) (pa_cons (pv 2) (pa_cons (pv 5) pa_nil))))) (pv 3) (fun _ _ => rfl)))
        (pss_one (ps_if (PW.pt (pw_and (pt_cmpR op_notN (pv 6) pe_non (nomark _)) (pw_and1 (PW.pt (pw_or (pt_cmpR (op_eqD hr.units) (pv 4) (pe_lst pa_nil) (nomark _))
            (pw_or1 (pt_cmpR op_lt (pv 6) (pe_ix ix_tup (pe_ix ix_list (pv 4) (pe_un un_neg pe_int) (fun _ _ => rfl)) pe_int (fun _ _ => rfl)) (nomark _))))))))
          (pss_one (ps_expr (pe_bm PySem.F.plainAttrs_list PySem.F.slot_list_append PySem.F.type_list_append mt_append (pv 4) (pa_cons (pe_tup (pa_cons (pv 5) (pa_cons (pv 6) pa_nil))) pa_nil)))) pss_nil))))
      (pss_one (ps_ret (pe_revL (pv 4))))), ?_⟩
    refine ⟨Nat.zero_le _, fun o no => ?_⟩
    have s0 := same_new (o := .lst []) no
    have o0 : (upd H o (.lst [])) o = some (.lst []) := upd_same
    generalize (upd H o (.lst [])) = H0 at s0 o0 ⊢
    refine ⟨_, rfl, a, many, bs, rfl, hW.same s0, fun H1 m ns s1 nm hm hsrt hmem hlen => ?_⟩
    refine ⟨m, _, rfl, SqL.of hm, fun l nl => ?_⟩
    have s2 := same_new (o := .lst (ns.map V.int).reverse) nl
    have s02 := (s0.trans s1).trans s2
    have o2 := s2 _ _ (s1 _ _ o0)
    have l2 : (upd H1 l (.lst (ns.map V.int).reverse)) l = some (.lst (ns.reverse.map V.int)) := by rw [upd_same, List.map_reverse]
    have lo : l ≠ o := fun e => by rw [e, s1 _ _ o0] at nl; cases nl
    generalize (upd H1 l (.lst (ns.map V.int).reverse)) = H2 at s2 s02 o2 l2 ⊢
    have hd : ns.reverse.Pairwise fun a b => b < a := List.pairwise_reverse.mpr hsrt
    refine ⟨l, rfl, ⟨_, SqL.of l2⟩, for_list (K := K) (a := l) (xs := ns.reverse.map V.int) (fun i σ H3 => Same H H3 ∧ H3 l = some (.lst (ns.reverse.map V.int)) ∧ ∃ (y5 y6 : Option V) (cs : List (Addr × (Int × Int))),
        σ = [some (.ref a), some (.int r), some (.int (st : Nat)), some (.int (goal : Nat)), some (.ref o), y5, y6] ∧ H3 o = some (.lst (refs cs)) ∧ At2 H3 cs ∧ cs.length ≤ i ∧ Found (dat bs) r st goal ((ns.reverse.drop i).reverse) (dat cs))
      ⟨s02, l2, none, none, [], rfl, o2, (fun b hb => by cases hb), Nat.le_refl _, ?_⟩ (fun i σ H3 _ ⟨_, h, _⟩ => SqL.of h) ?_ ?_⟩
    · rw [List.drop_zero, List.reverse_reverse]
      exact Found.start fun p hp => (hmem p.1).mpr ⟨p, hp, rfl⟩
    · rintro i x σ H3 hx ⟨s3, l3, y5, y6, cs, rfl, o3, hc, hci, hF⟩
      obtain ⟨mo, hmo, rfl⟩ := ints_get hx
      obtain ⟨d1, d2, d3⟩ := desc_split hd hmo
      rw [d1] at hF
      have hin : ∀ p ∈ dat bs, p.1 < mo → p.1 ∈ (ns.reverse.drop (i + 1)).reverse := fun p hp hlt => d2 p.1 (List.mem_reverse.mpr ((hmem p.1).mpr ⟨p, hp, rfl⟩)) hlt
      have hi24 : i < 24 := by
        obtain ⟨hi, _⟩ := List.getElem?_eq_some_iff.mp hmo
        rw [List.length_reverse] at hi
        omega
      refine ⟨_, rfl, _, rfl, _, rfl, _, rfl, a, many, bs, r, mo, st, rfl, hW.same s3, hst, h7, hr0, fun H4 cA cl s4 hcl hG => ?_⟩
      obtain ⟨v, hv, hk⟩ := cl_get (cl := cl) (v := goal) (by rw [hG.len]; exact hgo)
      have hs := hG.soon goal hne
      rw [hk] at hs
      have s34 := s3.trans s4
      have o4 := s4 _ _ o3
      have l4 := s4 _ _ l3
      have hc4 := hc.same s4
      refine ⟨_, rfl, cA, _, (goal : Nat), vO v, rfl, rfl, SqL.of hcl, atI_nat hv, _, rfl, rfl, _, rfl, ?_⟩
      cases v with
      | none =>
        exact iteF ⟨s34, l4, _, _, cs, rfl, o4, hc4, by omega, hF.skip hin hs fun t e => nomatch e⟩
      | some t =>
        refine iteT ⟨.ref o, rfl, Nat.zero_le _, fun e ne => ?_⟩
        have s5 := same_new (o := .lst []) ne
        have s35 := s34.trans s5
        have o5 := s5 _ _ o4
        have l5 := s5 _ _ l4
        have hc5 := hc4.same s5
        have e5 : (upd H4 e (.lst [])) e = some (.lst []) := upd_same
        generalize (upd H4 e (.lst [])) = H5 at s5 s35 o5 l5 hc5 e5 ⊢
        have put : (∀ z, (dat cs).getLast? = some z → t < z.2) → ∀ (H6 : Hp), H6 = H5 → ∀ p, H6 p = none → Found (dat bs) r st goal ((ns.reverse.drop (i + 1)).reverse) (dat (cs ++ [(p, (mo, t))])) := fun hz _ _ p _ => by
          show Found _ _ _ _ _ ((cs ++ [(p, (mo, t))]).map (·.2))
          rw [List.map_append]
          exact hF.take hin d3 hs hz
        have app : (∀ z, (dat cs).getLast? = some z → t < z.2) →
            ∀ p, H5 p = none → Same H (upd (upd H5 p (.tup [.int mo, .int t])) o (.lst (refs cs ++ [.ref p]))) ∧ (upd (upd H5 p (.tup [.int mo, .int t])) o (.lst (refs cs ++ [.ref p]))) l = some (.lst (ns.reverse.map V.int)) ∧ ∃ (y5 y6 : Option V) (cs' : List (Addr × (Int × Int))),
              [some (V.ref a), some (.int r), some (.int (st : Nat)), some (.int (goal : Nat)), some (.ref o), some (.int mo), some (vO (some t))] = [some (.ref a), some (.int r), some (.int (st : Nat)), some (.int (goal : Nat)), some (.ref o), y5, y6] ∧
              (upd (upd H5 p (.tup [.int mo, .int t])) o (.lst (refs cs ++ [.ref p]))) o = some (.lst (refs cs')) ∧ At2 (upd (upd H5 p (.tup [.int mo, .int t])) o (.lst (refs cs ++ [.ref p]))) cs' ∧ cs'.length ≤ i + 1 ∧ Found (dat bs) r st goal ((ns.reverse.drop (i + 1)).reverse) (dat cs') := by
          intro hz p np
          have sp := same_new (o := .tup [V.int mo, .int t]) np
          have np_o : p ≠ o := fun e => by rw [e, o5] at np; cases np
          refine ⟨same_put (s35.trans sp) no, at_ne (sp _ _ l5) lo, _, _, cs ++ [(p, (mo, t))], rfl, by rw [upd_same, refs_append]; rfl, fun c hc' => ?_, by rw [List.length_append]; show cs.length + 1 ≤ i + 1; omega, put hz _ rfl p np⟩
          rcases List.mem_append.mp hc' with hc' | hc'
          · exact at_ne (sp _ _ (hc5 c hc')) (ne_of (hc5 c hc') o5 (by intro z; cases z))
          · have e : c = (p, (mo, t)) := by simpa using hc'
            subst e
            exact at_ne upd_same np_o
        refine ⟨_, _, dp_pairs o5 hc5, .lst (SqL.of e5) .nil, tupDs_shaped _, tupDs_shaped [], _, rfl, ite2 (fun e1 => ?_) (fun e1 => ?_)⟩
        · rw [eqv_nil] at e1
          have e2 : cs = [] := by
            cases cs with
            | nil => rfl
            | cons c cs => cases e1
          refine iteT ⟨.ref o, rfl, .inl ⟨rfl, _, .inl (.inl o5)⟩, _, rfl, _, rfl, (by show 2 ≤ sizeLine; decide), fun p np => ?_⟩
          refine ⟨o, refs cs, _, rfl, rfl, at_new o5 np, by rw [refs_length]; exact small1000 (by omega), ?_⟩
          exact app (fun z hz => by rw [e2] at hz; cases hz) p np
        · have e2 : cs ≠ [] := fun z => e1 (by rw [eqv_nil, z]; rfl)
          obtain ⟨init, z, ez⟩ : ∃ init z, cs = init ++ [z] := ⟨cs.dropLast, cs.getLast e2, (List.dropLast_concat_getLast e2).symm⟩
          have hzm : z ∈ cs := by rw [ez]; simp
          have hz5 := hc5 z hzm
          have gl : (dat cs).getLast? = some z.2 := by
            show (cs.map (·.2)).getLast? = _
            rw [ez, List.map_append]
            simp
          have at1 : atI (refs cs) (-1) = some (.ref z.1) := by
            rw [ez, refs_append]
            exact atI_last _ _
          refine ⟨.int t, rfl, .ref o, rfl, 1, rfl, o, _, -1, .ref z.1, rfl, rfl, SqL.of o5, at1, z.1, _, 1, .int z.2.2, rfl, rfl, SqT.of hz5, rfl, t, z.2.2, rfl, rfl, _, rfl, ite2 (fun e3 => ?_) (fun e3 => ?_)⟩
          · have hlt := of_decide_eq_true e3
            refine ⟨.ref o, rfl, .inl ⟨rfl, _, .inl (.inl o5)⟩, _, rfl, _, rfl, (by show 2 ≤ sizeLine; decide), fun p np => ?_⟩
            refine ⟨o, refs cs, _, rfl, rfl, at_new o5 np, by rw [refs_length]; exact small1000 (by omega), ?_⟩
            exact app (fun z' hz' => by rw [gl] at hz'; cases hz'; exact hlt) p np
          · have hge : ¬ t < z.2.2 := fun h => e3 (decide_eq_true h)
            exact ⟨s35, l5, _, _, cs, rfl, o5, hc5, by omega, hF.skip hin hs fun t' et => ⟨z.2, gl, by cases et; omega⟩⟩
    · rintro σ H3 ⟨s3, l3, y5, y6, cs, rfl, o3, hc, hci, hF⟩
      rw [List.length_map, List.length_reverse] at hci hF
      rw [List.drop_of_length_le (by rw [List.length_reverse]; exact Nat.le_refl _)] at hF
      refine ⟨.ref o, rfl, o, _, rfl, SqL.of o3, fun p np => ?_⟩
      have sp := same_new (o := .lst (refs cs).reverse) np
      refine q _ p cs.reverse (s3.trans sp) ?_ (fun b hb => sp _ _ (hc b (List.mem_reverse.mp hb))) ?_ (by rw [List.length_reverse]; omega)
      · rw [upd_same]
        unfold refs
        rw [List.map_reverse]
      · show Best _ _ _ _ (cs.reverse.map (·.2))
        rw [List.map_reverse]
        exact hF.best
end
end WM

namespace WM
open PySem PySem.Spec PyProof.Rows L2
abbrev ngO (o : Option Int) : Option Int := o.map fun i => -i
section
variable {P : Program} {w : World} {K : PySem.W.Frag} {mg : Str → Option Value} {base : Heap}
/-! ### turned_moment -/
theorem scTMoment : FnScope ["moment"] ["moment"] (defScope sTMoment) := ⟨rfl, rfl, rfl, by decide +kernel, rfl, by decide +kernel, by decide +kernel⟩
def spTMoment : Sp := fun vs H Q _ => ∃ o : Option Int, vs = [vO o] ∧ Q (vO (ngO o)) H
theorem ok_tmoment {f : Addr} {fd : FuncData} {k : Nat} (F : Fun K "turned_moment" "turned_moment" sTMoment f fd) : FnOk P w K mg base CX0 (k + 1) f fd ["moment"] spTMoment := by
  refine F.ok scTMoment (fun vs H Q E h => ?_) (fun cdv A outer s H vs Q E hr h => ?_)
  · obtain ⟨o, rfl, _⟩ := h
    rfl
  · obtain ⟨o, rfl, q⟩ := h
    refine ⟨_, pss_cons (ps_if (pt_cmpR op_isN (pv 0) pe_non (nomark _)) (pss_one (ps_ret pe_non)) pss_nil) (pss_one (ps_ret (pe_op op_sub pe_int (pv 0)))), ?_⟩
    refine ⟨_, rfl, rfl, _, rfl, ?_⟩
    cases o with
    | none => exact iteT q
    | some i =>
      refine iteF ⟨_, rfl, _, _, rfl, rfl, ?_⟩
      have q' : Q (V.int (-i)) H := q
      rw [← Int.zero_sub] at q'
      exact q'
/-! ### turned_list -/
theorem scTList : FnScope ["moments", "moment"] ["moments"] (defScope sTList) := ⟨rfl, rfl, rfl, by decide +kernel, rfl, by decide +kernel, by decide +kernel⟩
def spTList : Sp := fun vs H Q _ => ∃ (a : Addr) (cl : List (Option Int)), vs = [.ref a] ∧ H a = some (.lst (cl.map vO)) ∧ cl.length ≤ 1000 ∧
  ∀ (H' : Hp) (p : Addr), Same H H' → H' p = some (.lst ((cl.map ngO).map vO)) → Q (.ref p) H'
theorem ok_tlist {f fM : Addr} {fd fdM : FuncData} (F : Fun K "turned_list" "turned_list" sTList f fd) (FM : Fun K "turned_moment" "turned_moment" sTMoment fM fdM) (bM : Binds K fdM ["moment"] []) (gM : mg "turned_moment" = some (.ref fM)) :
    FnOk P w K mg base CX0 2 f fd ["moments"] spTList := by
  have GM : FnOk P w K mg base CX0 1 fM fdM ["moment"] spTMoment := ok_tmoment FM
  refine F.ok scTList (fun vs H Q E h => ?_) (fun cdv A outer s H vs Q E hr h => ?_)
  · obtain ⟨a, cl, rfl, _⟩ := h
    rfl
  · obtain ⟨a, cl, rfl, hA, hlen, q⟩ := h
    refine ⟨_, pss_one (ps_ret (pe_lc (own := [("moment", 1)]) (g := gName 1) (tt := tYes) rfl scTList.nd (pi_list (pv 0)) (blkOk_by (N := ["moments", "moment"]) (sc := defScope sTList) (by decide +kernel))
      (fun _ _ _ _ _ => pg_name (i := 1) scTList.nd rfl (Or.inl rfl)) (fun _ _ _ _ _ => pts_nil) (fun _ _ _ _ _ => pe_call GM hr (by rfl) gM FM.kp bM .nil pass0 (pa_cons (pv 1) pa_nil)))), ?_⟩
    refine ⟨.ref a, rfl, a, rfl, ⟨_, SqL.of hA⟩, fun D hD => ?_⟩
    refine lc_list (K := K) (a := a) (xs := cl.map vO) (fun i H1 => Same H H1 ∧ H1 D = some (.lst (((cl.take i).map ngO).map vO))) ⟨same_new hD, upd_same⟩ (fun i H1 _ ⟨sm, _⟩ => SqL.of (sm _ _ hA)) ?_ ?_
    · rintro i x H1 hx ⟨sm, hd⟩
      obtain ⟨hi, e⟩ := List.getElem?_eq_some_iff.mp hx
      rw [List.length_map] at hi
      rw [List.getElem_map] at e
      subst e
      refine ⟨rfl, _, rfl, cl[i], rfl, _, hd, ?_, same_put sm hD, ?_⟩
      · rw [List.length_map, List.length_map, List.length_take]
        exact small1000 (by omega)
      · rw [upd_same, List.take_add_one, List.getElem?_eq_getElem hi, List.map_append, List.map_append]
        rfl
    · rintro H1 ⟨sm, hd⟩
      rw [List.length_map, List.take_length] at hd
      exact q _ D sm hd
/-! ### latest_to -/
theorem scLatest : FnScope ["web", "rest", "goal", "last"] ["web", "rest", "goal", "last"] (defScope sLatest) := ⟨rfl, rfl, rfl, by decide +kernel, rfl, by decide +kernel, by decide +kernel⟩
def spLatest : Sp := fun vs H Q _ => ∃ (a : Addr) (many : Nat) (bs : List (Addr × Stp)) (r last : Int) (goal : Nat), vs = [.ref a, .int r, .int (goal : Nat), .int last] ∧ WebAt H a many bs ∧ goal < many ∧ many ≤ 7 ∧ 0 ≤ r ∧
  ∀ (H' : Hp) (p : Addr) (cl : List (Option Int)) (ms' : List Stp), Same H H' → H' p = some (.lst ((cl.map ngO).map vO)) → Turned (dat bs) ms' → Good ms' r many goal (-last) cl → Q (.ref p) H'
theorem ok_latest {f fL fF fT : Addr} {fd fdL fdF fdT : FuncData} (F : Fun K "latest_to" "latest_to" sLatest f fd) (FL : Fun K "turned_list" "turned_list" sTList fL fdL) (bL : Binds K fdL ["moments"] []) (gL : mg "turned_list" = some (.ref fL)) (GL : FnOk P w K mg base CX0 2 fL fdL ["moments"] spTList)
    (FF : Fun K "soonest_from" "soonest_from" sFrom fF fdF) (bF : Binds K fdF ["web", "rest", "start", "first"] []) (gF : mg "soonest_from" = some (.ref fF)) (GF : FnOk P w K mg base CX0 3 fF fdF ["web", "rest", "start", "first"] spFrom)
    (FT : Fun K "turned_web" "turned_web" sTurned fT fdT) (bT : Binds K fdT ["web"] []) (gT : mg "turned_web" = some (.ref fT)) (mS : mg "sorted" = none) (mT : mg "tuple" = none) : FnOk P w K mg base CX0 4 f fd ["web", "rest", "goal", "last"] spLatest := by
  have GT : FnOk P w K mg base CX0 1 fT fdT ["web"] spTurned := ok_turned FT mS mT
  refine F.ok scLatest (fun vs H Q E h => ?_) (fun cdv A outer s H vs Q E hr h => ?_)
  · obtain ⟨a, many, bs, r, last, goal, rfl, _⟩ := h
    rfl
  · obtain ⟨a, many, bs, r, last, goal, rfl, hW, hgo, h7, hr0, q⟩ := h
    refine ⟨_, pss_one (ps_ret (pe_call GL (hr.mono (by decide)) (by rfl) gL FL.kp bL .nil pass0 (pa_cons (pe_call GF hr (by rfl) gF FF.kp bF .nil pass0
      (pa_cons (pe_call GT (hr.mono (by decide)) (by rfl) gT FT.kp bT .nil pass0 (pa_cons (pv 0) pa_nil)) (pa_cons (pv 1) (pa_cons (pv 2) (pa_cons (pe_op op_sub pe_int (pv 3)) pa_nil))))) pa_nil))), ?_⟩
    refine ⟨_, rfl, a, many, bs, rfl, hW, fun H1 p1 bs' s1 hW1 hT => ?_⟩
    refine ⟨_, rfl, _, rfl, _, rfl, _, _, rfl, rfl, p1, many, bs', r, 0 - last, goal, rfl, hW1, hgo, h7, hr0, fun H2 cA cl s2 hc hG => ?_⟩
    refine ⟨cA, cl, rfl, hc, by rw [hG.len]; omega, fun H3 p s3 hp => ?_⟩
    rw [Int.zero_sub] at hG
    exact q H3 p cl (dat bs') ((s1.trans s2).trans s3) hp hT hG
end
end WM

namespace WM
open PySem PySem.Spec PyProof.Rows L2
def PoolAt (H : Hp) (a : Addr) : Prop := ∃ x y z : Int, H a = some (.lst [.int x, .int y, .int z])
theorem PoolAt.same {H H' : Hp} {a : Addr} (h : PoolAt H a) (e : Same H H') : PoolAt H' a := by
  obtain ⟨x, y, z, q⟩ := h
  exact ⟨x, y, z, e _ _ q⟩
section
variable {P : Program} {w : World} {K : PySem.W.Frag} {mg : Str → Option Value} {base : Heap}
/-! ### _law_pool -/
theorem scPool : FnScope ["cell"] ["cell"] (defScope sPool) := ⟨rfl, rfl, rfl, by decide +kernel, rfl, by decide +kernel, by decide +kernel⟩
def spPool : Sp := fun vs H Q _ => ∃ c : Int, vs = [.int c] ∧ ∀ (H' : Hp) (p : Addr), Same H H' → H p = none → PoolAt H' p → Q (.ref p) H'
theorem ok_pool {f : Addr} {fd : FuncData} {k : Nat} (F : Fun K "_law_pool" "_law_pool" sPool f fd) (mX : mg "max" = none) : FnOk P w K mg base CX0 (k + 1) f fd ["cell"] spPool := by
  refine F.ok scPool (fun vs H Q E h => ?_) (fun cdv A outer s H vs Q E hr h => ?_)
  · obtain ⟨c, rfl, _⟩ := h
    rfl
  · obtain ⟨c, rfl, q⟩ := h
    refine ⟨_, pss_one (ps_ret (pe_lst (pa_cons (pe_callB (call_max2 rfl) (by rfl) mX PyProof.Rows.boot_max (pa_cons pe_int (pa_cons (pe_op op_sub (pv 0) (pe_op op_pow pe_int pe_int)) pa_nil)))
      (pa_cons (pe_op op_mod (pv 0) (pe_op op_pow pe_int pe_int)) (pa_cons pe_int pa_nil))))), ?_⟩
    refine ⟨.int c, rfl, 10, 18, rfl, rfl, ⟨by decide, by decide, by decide⟩, c, _, rfl, rfl, 0, _, rfl, .int c, rfl, 10, 18, rfl, rfl, ⟨by decide, by decide, by decide⟩, c, _, rfl, rfl, (by show (0 : Int) < 10 ^ (18 : Nat); decide), (by show 3 ≤ sizeLine; decide), fun p hp => ?_⟩
    exact q _ p (same_new hp) hp ⟨_, _, _, upd_same⟩
/-! ### _law_next -/
theorem scNext : FnScope ["pool", "base", "digit", "near", "stir"] ["pool", "base"] (defScope sNext) := ⟨rfl, rfl, rfl, by decide +kernel, rfl, by decide +kernel, by decide +kernel⟩
def spNext : Sp := fun vs H Q _ => ∃ (a : Addr) (b : Int), vs = [.ref a, .int b] ∧ PoolAt H a ∧ 0 < b ∧ b < 1073741824 ∧ ∀ (H' : Hp) (d : Int), Keeps a H H' → PoolAt H' a → 0 ≤ d → d < b → Q (.int d) H'
theorem ok_next {f : Addr} {fd : FuncData} {k : Nat} (F : Fun K "_law_next" "_law_next" sNext f fd) : FnOk P w K mg base CX0 (k + 1) f fd ["pool", "base"] spNext := by
  refine F.ok scNext (fun vs H Q E h => ?_) (fun cdv A outer s H vs Q E hr h => ?_)
  · obtain ⟨a, b, rfl, _⟩ := h
    rfl
  · obtain ⟨a, b, rfl, ⟨x, y, z, hA⟩, hb0, hb1, q⟩ := h
    refine ⟨_, pss_cons (ps_if (pt_cmpR op_gt (pe_ix ix_list (pv 0) pe_int (fun _ _ => rfl)) pe_int (nomark _))
        (pss_cons (ps_set (i := 2) scNext.nd rfl (Or.inl rfl) (pe_op op_mod (pe_ix ix_list (pv 0) pe_int (fun _ _ => rfl)) (pv 1)))
        (pss_cons (ps_asg (pe_op op_fdiv (pe_ix ix_list (pv 0) pe_int (fun _ _ => rfl)) (pv 1)) (pg_sub (pv 0) pe_int set_list))
        (pss_one (ps_ret (pv 2))))) pss_nil)
      (pss_cons (ps_asg (pe_op op_add (pe_ix ix_list (pv 0) pe_int (fun _ _ => rfl)) pe_int) (pg_sub (pv 0) pe_int set_list))
      (pss_cons (ps_set (i := 3) scNext.nd rfl (Or.inl rfl) (pe_op op_mod (pe_op op_add (pe_ix ix_list (pv 0) pe_int (fun _ _ => rfl)) (pe_op op_mul pe_int (pe_ix ix_list (pv 0) pe_int (fun _ _ => rfl)))) pe_int))
      (pss_cons (ps_set (i := 4) scNext.nd rfl (Or.inl rfl) (pe_op op_mod (pe_op op_mul (pe_op op_add (pv 3) pe_int) (pe_op op_add (pv 3) pe_int)) pe_int))
      (pss_one (ps_ret (pe_op op_mod (pe_op op_fdiv (pe_op op_mod (pe_op op_mul (pv 4) (pv 4)) pe_int) pe_int) (pv 1))))))), ?_⟩
    refine ⟨.ref a, rfl, a, _, 0, .int x, rfl, rfl, SqL.of hA, rfl, _, _, rfl, rfl, _, rfl, ite2 (fun e => ?_) (fun e => ?_)⟩
    · refine ⟨.ref a, rfl, a, _, 0, .int x, rfl, rfl, SqL.of hA, rfl, .int b, rfl, x, b, rfl, rfl, hb0, ?_⟩
      refine ⟨.ref a, rfl, a, _, 0, .int x, rfl, rfl, SqL.of hA, rfl, .int b, rfl, x, b, rfl, rfl, ⟨hb0, hb1⟩, .ref a, rfl, a, _, 0, 0, rfl, rfl, hA, rfl, ?_⟩
      exact ⟨_, rfl, q _ (x % b) keeps_put ⟨_, _, _, upd_same⟩ (Int.emod_nonneg _ (by omega)) (Int.emod_lt_of_pos _ hb0)⟩
    · refine ⟨.ref a, rfl, a, _, 2, .int z, rfl, rfl, SqL.of hA, rfl, z, 1, rfl, rfl, .ref a, rfl, a, _, 2, 2, rfl, rfl, hA, rfl, ?_⟩
      have hA1 : (upd H a (.lst [.int x, .int y, .int (z + 1)])) a = some (.lst [.int x, .int y, .int (z + 1)]) := upd_same
      have k1 : Keeps a H (upd H a (.lst [.int x, .int y, .int (z + 1)])) := keeps_put
      show ∃ v, _
      refine ⟨.ref a, rfl, a, _, 1, .int y, rfl, rfl, SqL.of hA1, rfl, .ref a, rfl, a, _, 2, .int (z + 1), rfl, rfl, SqL.of hA1, rfl, 7919, z + 1, rfl, rfl, .inl ⟨by decide, by decide⟩, y, _, rfl, rfl, _, _, rfl, rfl, (by show (0 : Int) < 1000000007; decide), ?_⟩
      dsimp only
      generalize en : (y + 7919 * (z + 1)) % 1000000007 = near
      have n0 : 0 ≤ near := by rw [← en]; exact Int.emod_nonneg _ (by decide)
      have n1 : near < 1000000007 := by rw [← en]; exact Int.emod_lt_of_pos _ (by decide)
      refine ⟨.int near, rfl, near, 11, rfl, rfl, .int near, rfl, near, 48271, rfl, rfl, near + 11, near + 48271, rfl, rfl, .inl ⟨by omega, by omega⟩, _, _, rfl, rfl, (by show (0 : Int) < 998244353; decide), ?_⟩
      dsimp only
      generalize es : (near + 11) * (near + 48271) % 998244353 = stir
      have s0 : 0 ≤ stir := by rw [← es]; exact Int.emod_nonneg _ (by decide)
      have s1 : stir < 998244353 := by rw [← es]; exact Int.emod_lt_of_pos _ (by decide)
      refine ⟨.int stir, rfl, .int stir, rfl, stir, stir, rfl, rfl, .inl ⟨by omega, by omega⟩, _, _, rfl, rfl, (by show (0 : Int) < 2147483647; decide), _, _, rfl, rfl, ⟨by decide, by decide⟩, .int b, rfl, _, b, rfl, rfl, hb0, ?_⟩
      exact q _ _ k1 ⟨_, _, _, hA1⟩ (Int.emod_nonneg _ (by omega)) (Int.emod_lt_of_pos _ hb0)
/-! ### _law_moment -/
theorem scMoment : FnScope ["pool", "size"] ["pool", "size"] (defScope sMoment) := ⟨rfl, rfl, rfl, by decide +kernel, rfl, by decide +kernel, by decide +kernel⟩
def spMoment : Sp := fun vs H Q _ => ∃ (a : Addr) (z : Int), vs = [.ref a, .int z] ∧ PoolAt H a ∧ 0 ≤ z ∧ z < 5 ∧ ∀ (H' : Hp) (t : Int), Keeps a H H' → PoolAt H' a → Q (.int t) H'
theorem ok_moment {f fN : Addr} {fd fdN : FuncData} (F : Fun K "_law_moment" "_law_moment" sMoment f fd) (FN : Fun K "_law_next" "_law_next" sNext fN fdN) (bN : Binds K fdN ["pool", "base"] []) (gN : mg "_law_next" = some (.ref fN)) :
    FnOk P w K mg base CX0 2 f fd ["pool", "size"] spMoment := by
  have GN : FnOk P w K mg base CX0 1 fN fdN ["pool", "base"] spNext := ok_next FN
  refine F.ok scMoment (fun vs H Q E h => ?_) (fun cdv A outer s H vs Q E hr h => ?_)
  · obtain ⟨a, z, rfl, _⟩ := h
    rfl
  · obtain ⟨a, z, rfl, hP, hz0, hz1, q⟩ := h
    refine ⟨_, pss_cons (ps_if (pt_cmpR op_eq (pv 1) pe_int (nomark _))
        (pss_one (ps_ret (pe_op op_sub (pe_op op_add (pe_op op_mul (pe_call GN hr (by rfl) gN FN.kp bN .nil pass0 (pa_cons (pv 0) (pa_cons pe_int pa_nil))) pe_int) (pe_call GN hr (by rfl) gN FN.kp bN .nil pass0 (pa_cons (pv 0) (pa_cons pe_int pa_nil)))) (pe_op op_pow pe_int pe_int)))) pss_nil)
      (pss_one (ps_ret (pe_ix ix_list (pe_lst (pa_cons (pe_call GN hr (by rfl) gN FN.kp bN .nil pass0 (pa_cons (pv 0) (pa_cons pe_int pa_nil))) (pa_cons (pe_call GN hr (by rfl) gN FN.kp bN .nil pass0 (pa_cons (pv 0) (pa_cons pe_int pa_nil)))
        (pa_cons (pe_op op_mul pe_int (pe_call GN hr (by rfl) gN FN.kp bN .nil pass0 (pa_cons (pv 0) (pa_cons pe_int pa_nil)))) (pa_cons (pe_op op_sub (pe_call GN hr (by rfl) gN FN.kp bN .nil pass0 (pa_cons (pv 0) (pa_cons pe_int pa_nil))) pe_int) pa_nil))))) (pv 1) (fun _ _ => rfl)))), ?_⟩
    refine ⟨.int z, rfl, rfl, _, rfl, ite2 (fun e => ?_) (fun e => ?_)⟩
    · refine ⟨_, rfl, a, 100000, rfl, hP, by decide, by decide, fun H1 d1 k1 p1 _ _ => ?_⟩
      refine ⟨d1, 20000, rfl, rfl, .inr ⟨by decide, by decide⟩, _, rfl, a, 20001, rfl, p1, by decide, by decide, fun H2 d2 k2 p2 _ _ => ?_⟩
      exact ⟨_, d2, rfl, rfl, 10, 9, rfl, rfl, ⟨by decide, by decide, by decide⟩, _, _, rfl, rfl, q H2 _ (k1.trans k2) p2⟩
    · have hz : z < 4 := by
        rcases Int.lt_or_le z 4 with h | h
        · exact h
        · exact absurd (decide_eq_true (congrArg V.int (show z = 4 by omega))) e
      refine ⟨_, rfl, a, 7, rfl, hP, by decide, by decide, fun H1 d1 k1 p1 _ _ => ?_⟩
      refine ⟨_, rfl, a, 31, rfl, p1, by decide, by decide, fun H2 d2 k2 p2 _ _ => ?_⟩
      refine ⟨_, rfl, a, 12, rfl, p2, by decide, by decide, fun H3 d3 k3 p3 _ _ => ?_⟩
      refine ⟨3, d3, rfl, rfl, .inl ⟨by decide, by decide⟩, _, rfl, a, 21, rfl, p3, by decide, by decide, fun H4 d4 k4 p4 _ _ => ?_⟩
      refine ⟨d4, 10, rfl, rfl, (by show 4 ≤ sizeLine; decide), fun l hl => ?_⟩
      have k04 := ((k1.trans k2).trans k3).trans k4
      have fin : ∀ t : Int, Q (.int t) (upd H4 l (.lst [.int d1, .int d2, .int (3 * d3), .int (d4 - 10)])) := fun t => q _ t (k04.trans (keeps_new hl)) (p4.same (same_new hl))
      obtain ⟨t, ht⟩ : ∃ t : Int, atI [V.int d1, .int d2, .int (3 * d3), .int (d4 - 10)] z = some (.int t) := by
        have : z = 0 ∨ z = 1 ∨ z = 2 ∨ z = 3 := by omega
        rcases this with rfl | rfl | rfl | rfl
        · exact ⟨_, rfl⟩
        · exact ⟨_, rfl⟩
        · exact ⟨_, rfl⟩
        · exact ⟨_, rfl⟩
      exact ⟨.int z, rfl, l, _, z, .int t, rfl, rfl, SqL.of upd_same, ht, fin t⟩
end
end WM

namespace WM
open PySem PySem.Spec PyProof.Rows L2
theorem units65 {k : Nat} {A : Around} (h : Room (k + 1) A) : A.units + 65 < cLine := by
  have := h.un
  omega
abbrev nums (s : Stp) : List Int := [s.1, (s.2.1 : Nat), (s.2.2 : Nat)]
theorem dp_stps {K : PySem.W.Frag} {H : Hp} {a : Addr} {bs : List (Addr × Stp)} (ha : H a = some (.lst (refs bs))) (h : At3 H bs) : Dp K H (.ref a) (.list ((bs.map fun b => nums b.2).map tupD)) :=
  .lst (SqL.of ha) (dp_refs (f := nums) fun b hb => h b hb)
/-- a web made of a list of triples: tuple(sorted(..)), then the pair -/
theorem web_made {H : Hp} {many : Nat} {cs bs' : List (Addr × Stp)} {l w : Addr} (hp : bs'.Perm cs) (hc : At3 H cs) (hb : ∀ b ∈ cs, b.2.2.1 < many ∧ b.2.2.2 < many) (hlen : cs.length ≤ 24) (hl : H l = some (.tup (refs bs'))) (hw : H w = some (.tup [.int (many : Nat), .ref l])) : WebAt H w many bs' :=
  ⟨⟨l, hw, hl⟩, fun b m => hc b (hp.mem_iff.mp m), fun b m => hb b (hp.mem_iff.mp m), by rw [hp.length_eq]; exact hlen⟩
section
variable {P : Program} {w : World} {K : PySem.W.Frag} {mg : Str → Option Value} {base : Heap}
/-! ### _law_drawn_web -/
theorem scDrawn : FnScope ["pool", "many", "size", "meets", "k", "one", "other", "meet"] ["pool", "many"] (defScope sDrawn) := ⟨rfl, rfl, rfl, by decide +kernel, rfl, by decide +kernel, by decide +kernel⟩
def spDrawn : Sp := fun vs H Q _ => ∃ (a : Addr) (many : Nat), vs = [.ref a, .int (many : Nat)] ∧ PoolAt H a ∧ 2 ≤ many ∧ many ≤ 7 ∧
  ∀ (H' : Hp) (p : Addr) (bs : List (Addr × Stp)), Keeps a H H' → PoolAt H' a → WebAt H' p many bs → Q (.ref p) H'
theorem ok_drawn {f fN fM : Addr} {fd fdN fdM : FuncData} (F : Fun K "_law_drawn_web" "_law_drawn_web" sDrawn f fd) (FN : Fun K "_law_next" "_law_next" sNext fN fdN) (bN : Binds K fdN ["pool", "base"] []) (gN : mg "_law_next" = some (.ref fN))
    (FM : Fun K "_law_moment" "_law_moment" sMoment fM fdM) (bM : Binds K fdM ["pool", "size"] []) (gM : mg "_law_moment" = some (.ref fM))
    (mR : mg "range" = none) (mI : mg "int" = none) (mMn : mg "min" = none) (mMx : mg "max" = none) (mT : mg "tuple" = none) (mS : mg "sorted" = none) : FnOk P w K mg base CX0 3 f fd ["pool", "many"] spDrawn := by
  have GN : FnOk P w K mg base CX0 1 fN fdN ["pool", "base"] spNext := ok_next FN
  have GM : FnOk P w K mg base CX0 2 fM fdM ["pool", "size"] spMoment := ok_moment FM FN bN gN
  refine F.ok scDrawn (fun vs H Q E h => ?_) (fun cdv A outer s H vs Q E hr h => ?_)
  · obtain ⟨a, many, rfl, _⟩ := h
    rfl
  · obtain ⟨a, many, rfl, hP, hm2, hm7, q⟩ := h
    have hr1 := hr.mono (j := 1) (by decide)
    refine ⟨_, pss_cons (ps_set (i := 2) scDrawn.nd rfl (Or.inl rfl) (pe_call GN hr1 (by rfl) gN FN.kp bN .nil pass0 (pa_cons (pv 0) (pa_cons pe_int pa_nil))))
      (pss_cons (ps_set (i := 3) scDrawn.nd rfl (Or.inl rfl) (pe_lst pa_nil))
      (pss_cons (ps_for PassesOwn.never rfl (pi_range1 (by rfl) mR (pa_cons (pe_op op_mul
            (pe_ix ix_list (pe_lst (pa_cons pe_int (pa_cons (pe_call GN hr1 (by rfl) gN FN.kp bN .nil pass0 (pa_cons (pv 0) (pa_cons pe_int pa_nil))) (pa_cons (pe_call GN hr1 (by rfl) gN FN.kp bN .nil pass0 (pa_cons (pv 0) (pa_cons pe_int pa_nil))) pa_nil))))
              (pe_call GN hr1 (by rfl) gN FN.kp bN .nil pass0 (pa_cons (pv 0) (pa_cons pe_int pa_nil))) (fun _ _ => rfl))
            (pe_callTy call_int1 (by rfl) mI PyProof.Rows.boot_int (pa_cons (pe_cmpR op_gt (pv 1) pe_int (nomark _)) pa_nil))) pa_nil)) (pg_name (i := 4) scDrawn.nd rfl (Or.inl rfl))
        (pss_cons (ps_set (i := 5) scDrawn.nd rfl (Or.inl rfl) (pe_call GN hr1 (by rfl) gN FN.kp bN .nil pass0 (pa_cons (pv 0) (pa_cons (pv 1) pa_nil))))
        (pss_cons (ps_set (i := 6) scDrawn.nd rfl (Or.inl rfl) (pe_op op_mod (pe_op op_add (pe_op op_add (pv 5) pe_int) (pe_call GN hr1 (by rfl) gN FN.kp bN .nil pass0 (pa_cons (pv 0) (pa_cons (pe_op op_sub (pv 1) pe_int) pa_nil)))) (pv 1)))
        (pss_cons (ps_set (i := 7) scDrawn.nd rfl (Or.inl rfl) (pe_tup (pa_cons (pe_call GM hr (by rfl) gM FM.kp bM .nil pass0 (pa_cons (pv 0) (pa_cons (pv 2) pa_nil)))
          (pa_cons (pe_callB (call_min2 rfl) (by rfl) mMn PyProof.Rows.boot_min (pa_cons (pv 5) (pa_cons (pv 6) pa_nil))) (pa_cons (pe_callB (call_max2 rfl) (by rfl) mMx PyProof.Rows.boot_max (pa_cons (pv 5) (pa_cons (pv 6) pa_nil))) pa_nil)))))
        (pss_one (ps_if (pt_cmpR (op_notInD (units65 hr)) (pv 7) (pv 3) (by rfl))
          (pss_one (ps_expr (pe_bm PySem.F.plainAttrs_list PySem.F.slot_list_append PySem.F.type_list_append mt_append (pv 3) (pa_cons (pv 7) pa_nil)))) pss_nil))))))
      (pss_one (ps_ret (pe_tup (pa_cons (pv 1) (pa_cons (pe_callTy call_tuple_of (by rfl) mT PyProof.Rows.boot_tuple (pa_cons (pe_callB (cr_sorted3 hr.units) (by rfl) mS PyProof.Rows.boot_sorted (pa_cons (pv 3) pa_nil)) pa_nil)) pa_nil))))))), ?_⟩
    -- size = next(pool, 5); meets = []
    refine ⟨_, rfl, a, 5, rfl, hP, by decide, by decide, fun H1 sz k1 p1 z0 z5 => ?_⟩
    refine ⟨Nat.zero_le _, fun o no => ?_⟩
    have ao : a ≠ o := fun e => by
      obtain ⟨_, _, _, h⟩ := p1
      rw [e, no] at h
      cases h
    have no0 : H o = none := k1.free (let ⟨_, _, _, h⟩ := p1; ⟨_, h⟩) no
    have k2 : Keeps a H (upd H1 o (.lst [])) := keeps_own k1 no0
    have p2 : PoolAt (upd H1 o (.lst [])) a := p1.same (same_new no)
    have o2 : (upd H1 o (.lst [])) o = some (.lst []) := upd_same
    generalize (upd H1 o (.lst [])) = H2 at k2 p2 o2 ⊢
    -- the range's end
    refine ⟨_, rfl, a, 25, rfl, p2, by decide, by decide, fun H3 d1 k3 p3 d10 d11 => ?_⟩
    refine ⟨_, rfl, a, 9, rfl, p3, by decide, by decide, fun H4 d2 k4 p4 d20 d21 => ?_⟩
    refine ⟨(by show 3 ≤ sizeLine; decide), fun l nl => ?_⟩
    have sl := same_new (o := .lst [.int 24, .int d1, .int d2]) nl
    have p5 := p4.same sl
    have al : l ≠ a := fun e => by
      obtain ⟨_, _, _, h⟩ := p4
      rw [e, h] at nl
      cases nl
    refine ⟨_, rfl, a, 3, rfl, p5, by decide, by decide, fun H6 d3 k6 p6 d30 d31 => ?_⟩
    have l6 : H6 l = some (.lst [.int 24, .int d1, .int d2]) := k6 l _ al upd_same
    have o4 : H4 o = some (.lst []) := k4 o _ ao.symm (k3 o _ ao.symm o2)
    have o6 : H6 o = some (.lst []) := k6 o _ ao.symm (sl _ _ o4)
    have k06 : Keeps a H H6 := (((k2.trans k3).trans k4).trans (Same.keeps sl)).trans k6
    obtain ⟨n, hn, hnb⟩ : ∃ n : Int, atI [V.int 24, .int d1, .int d2] d3 = some (.int n) ∧ 0 ≤ n ∧ n ≤ 24 := by
      have : d3 = 0 ∨ d3 = 1 ∨ d3 = 2 := by omega
      rcases this with rfl | rfl | rfl
      · exact ⟨_, rfl, by omega⟩
      · exact ⟨_, rfl, by omega⟩
      · exact ⟨_, rfl, by omega⟩
    refine ⟨l, _, d3, .int n, rfl, rfl, SqL.of l6, hn, _, rfl, (many : Nat), 1, rfl, rfl, .inr ⟨_, rfl, n, _, rfl, rfl, .inl ⟨by omega, by omega⟩, _, rfl, ?_⟩⟩
    have hone : decide ((1 : Int) < ((many : Nat) : Int)) = true := decide_eq_true (by omega)
    rw [hone, if_pos rfl, Int.mul_one]
    refine ⟨by omega, by omega, for_range (lo := 0) (n := n.toNat) (fun i σ H' => Keeps a H H' ∧ PoolAt H' a ∧ ∃ (y4 y5 y6 y7 : Option V) (cs : List (Addr × Stp)), σ = [some (.ref a), some (.int (many : Nat)), some (.int sz), some (.ref o), y4, y5, y6, y7] ∧
        H' o = some (.lst (refs cs)) ∧ At3 H' cs ∧ (∀ b ∈ cs, b.2.2.1 < many ∧ b.2.2.2 < many) ∧ cs.length ≤ i)
      ⟨k06, p6, none, none, none, none, [], rfl, o6, (fun b hb => by cases hb), (fun b hb => by cases hb), Nat.le_refl _⟩ ?_ ?_⟩
    · rintro i σ H7 hi ⟨k7, p7, y4, y5, y6, y7, cs, rfl, o7, x7, b7, hl7⟩
      -- one
      refine ⟨_, rfl, _, rfl, a, (many : Nat), rfl, p7, by omega, by omega, fun H8 one k8 p8 one0 one1 => ?_⟩
      -- other
      refine ⟨.int one, rfl, one, 1, rfl, rfl, _, rfl, .int (many : Nat), rfl, (many : Nat), 1, rfl, rfl, a, (many : Nat) - 1, rfl, p8, by omega, by omega, fun H9 dd k9 p9 dd0 dd1 => ?_⟩
      refine ⟨one + 1, dd, rfl, rfl, .int (many : Nat), rfl, one + 1 + dd, (many : Nat), rfl, rfl, by omega, ?_⟩
      dsimp only
      have t0 : 0 ≤ (one + 1 + dd) % ((many : Nat) : Int) := Int.emod_nonneg _ (by omega)
      have t1 : (one + 1 + dd) % ((many : Nat) : Int) < ((many : Nat) : Int) := Int.emod_lt_of_pos _ (by omega)
      generalize (one + 1 + dd) % ((many : Nat) : Int) = other at t0 t1 ⊢
      -- meet
      refine ⟨_, rfl, _, rfl, a, sz, rfl, p9, z0, z5, fun H10 tm k10 p10 => ?_⟩
      refine ⟨.int one, rfl, .int other, rfl, one, other, rfl, .int one, rfl, .int other, rfl, one, other, rfl, (by show 3 ≤ sizeLine; decide), fun p np => ?_⟩
      obtain ⟨u, hu, hub⟩ : ∃ u : Nat, (if other < one then other else one) = (u : Int) ∧ u < many := ⟨(if other < one then other else one).toNat, by split <;> omega, by split <;> omega⟩
      obtain ⟨v, hv, hvb⟩ : ∃ v : Nat, (if other > one then other else one) = (v : Int) ∧ v < many := ⟨(if other > one then other else one).toNat, by split <;> omega, by split <;> omega⟩
      rw [hu, hv]
      have sp := same_new (o := .tup [V.int tm, V.int (u : Nat), V.int (v : Nat)]) np
      have p11 := p10.same sp
      have k7_10 := (k8.trans k9).trans k10
      have o10 := k7_10 o _ ao.symm o7
      obtain ⟨ys, hys⟩ : ∃ ys, H7 a = some (.lst ys) := let ⟨_, _, _, h⟩ := p7; ⟨_, h⟩
      have x10 := x7.keeps k7_10 hys
      have np_o : p ≠ o := fun e => by rw [e, o10] at np; cases np
      have o11 := sp _ _ o10
      have x11 := x10.same sp
      have n11 : (upd H10 p (.tup [V.int tm, V.int (u : Nat), V.int (v : Nat)])) p = some (.tup (stpV (tm, u, v))) := upd_same
      have k11 : Keeps a H (upd H10 p (.tup [V.int tm, V.int (u : Nat), V.int (v : Nat)])) := (k7.trans k7_10).trans (Same.keeps sp)
      generalize (upd H10 p (.tup [V.int tm, V.int (u : Nat), V.int (v : Nat)])) = H11 at p11 o11 x11 n11 k11 ⊢
      refine ⟨_, rfl, _, rfl, tupD (nums (tm, u, v)), _, dp_tup n11, dp_stps o11 x11, tupD_shaped _, tupDs_shaped _, _, rfl, ite2 (fun e => ?_) (fun e => ?_)⟩
      · refine ⟨.ref o, rfl, .inl ⟨rfl, _, .inl (.inl o11)⟩, _, rfl, o, refs cs, _, rfl, rfl, o11, by rw [refs_length]; exact small1000 (by omega), ?_⟩
        obtain ⟨x0, y0, z0', h0⟩ := p11
        refine ⟨keeps_own k11 no0, ⟨x0, y0, z0', at_ne h0 ao⟩, _, _, _, _, cs ++ [(p, (tm, u, v))], rfl, by rw [upd_same, refs_append]; rfl, fun c hc => ?_, fun c hc => ?_, by rw [List.length_append]; show cs.length + 1 ≤ i + 1; omega⟩
        · rcases List.mem_append.mp hc with hc | hc
          · exact at_ne (x11 c hc) (ne_of (x11 c hc) o11 (by intro z; cases z))
          · have e : c = (p, (tm, u, v)) := by simpa using hc
            subst e
            exact at_ne n11 np_o
        · rcases List.mem_append.mp hc with hc | hc
          · exact b7 c hc
          · have e : c = (p, (tm, u, v)) := by simpa using hc
            subst e
            exact ⟨hub, hvb⟩
      · exact ⟨k11, p11, _, _, _, _, cs, rfl, o11, x11, b7, by omega⟩
    · rintro σ H7 ⟨k7, p7, y4, y5, y6, y7, cs, rfl, o7, x7, b7, hl7⟩
      refine ⟨_, rfl, _, rfl, o, cs, rfl, SqL.of o7, x7, by omega, fun bs' r hp hw hrn => ?_⟩
      have s1 := same_new (o := .lst (refs bs')) hrn
      refine ⟨r, _, rfl, .inl ⟨SqL.of upd_same, fun t nt => ?_⟩⟩
      have s2 := same_new (o := .tup (refs bs')) nt
      refine ⟨(by show 2 ≤ sizeLine; decide), fun x nx => ?_⟩
      have s3 := same_new (o := .tup [V.int (many : Nat), V.ref t]) nx
      have s13 := (s1.trans s2).trans s3
      exact q _ x bs' (k7.trans (Same.keeps s13)) (p7.same s13) (web_made hp (x7.same s13) b7 (by omega) (s3 _ _ upd_same) upd_same)
end
end WM

namespace WM
open PySem PySem.Spec PyProof.Rows L2
def natV (ns : List Nat) : List V := ns.map fun n => V.int (n : Nat)
theorem tup_eq {t t' u v : Int} {a b : Nat} (h1 : t = t') (h2 : u = a) (h3 : v = b) : HO.tup [.int t, .int u, .int v] = .tup (stpV (t', a, b)) := by
  subst h1; subst h2; subst h3; rfl
def tri : Nat → Nat
  | 0 => 0
  | n + 1 => (n + 1) + tri n
theorem tri_le {n : Nat} (h : n ≤ 5) : tri n ≤ 15 := by
  have e : n = 0 ∨ n = 1 ∨ n = 2 ∨ n = 3 ∨ n = 4 ∨ n = 5 := by omega
  rcases e with rfl | rfl | rfl | rfl | rfl | rfl <;> decide
theorem perm_rot {ord : List Nat} {j x : Nat} (h : ord[j]? = some x) : (ord.eraseIdx j ++ [x]).Perm ord := by
  obtain ⟨hj, e⟩ := List.getElem?_eq_some_iff.mp h
  rw [List.eraseIdx_eq_take_drop_succ, List.append_assoc]
  have es : ord = ord.take j ++ x :: ord.drop (j + 1) := by
    rw [← e, ← List.drop_eq_getElem_cons hj, List.take_append_drop]
  conv => rhs; rw [es]
  refine List.Perm.append_left _ ?_
  exact List.perm_append_comm (l₁ := ord.drop (j + 1)) (l₂ := [x])
theorem natV_len (ns : List Nat) : (natV ns).length = ns.length := List.length_map ..
theorem natV_get {ns : List Nat} {i n : Nat} (h : ns[i]? = some n) : (natV ns)[i]? = some (.int (n : Nat)) := by
  unfold natV
  rw [List.getElem?_map, h]
  rfl
theorem natV_last {ord : List Nat} (hne : ord ≠ []) : atI (natV ord) (-1) = some (.int ((ord.getLast hne : Nat) : Int)) := by
  have e : natV ord = natV ord.dropLast ++ [V.int ((ord.getLast hne : Nat) : Int)] := by
    refine Eq.trans (congrArg natV (List.dropLast_concat_getLast hne).symm) ?_
    unfold natV
    rw [List.map_append]
    rfl
  rw [e]
  exact atI_last _ _
section
variable {P : Program} {w : World} {K : PySem.W.Frag} {mg : Str → Option Value} {base : Heap}
/-! ### _law_steep_web -/
abbrev nSteep : List Str := ["pool", "many", "rest", "order", "k", "gap", "meets", "far", "found", "moment", "one", "other"]
theorem scSteep : FnScope nSteep ["pool", "many", "rest"] (defScope sSteep) := ⟨rfl, rfl, rfl, by decide +kernel, rfl, by decide +kernel, by decide +kernel⟩
def spSteep : Sp := fun vs H Q _ => ∃ (a : Addr) (many : Nat) (rest : Int), vs = [.ref a, .int (many : Nat), .int rest] ∧ PoolAt H a ∧ 2 ≤ many ∧ many ≤ 7 ∧ 0 ≤ rest ∧ rest < 9 ∧
  ∀ (H' : Hp) (p x : Addr) (bs : List (Addr × Stp)) (st goal : Nat), Keeps a H H' → PoolAt H' a → WebAt H' x many bs → st < many → goal < many → goal ≠ st → H' p = some (.tup [.ref x, .int (st : Nat), .int (goal : Nat)]) → Q (.ref p) H'
theorem ok_steep {f fN : Addr} {fd fdN : FuncData} (F : Fun K "_law_steep_web" "_law_steep_web" sSteep f fd) (FN : Fun K "_law_next" "_law_next" sNext fN fdN) (bN : Binds K fdN ["pool", "base"] []) (gN : mg "_law_next" = some (.ref fN))
    (mR : mg "range" = none) (mL : mg "list" = none) (mMn : mg "min" = none) (mMx : mg "max" = none) (mT : mg "tuple" = none) (mS : mg "sorted" = none) : FnOk P w K mg base CX0 2 f fd ["pool", "many", "rest"] spSteep := by
  have GN : FnOk P w K mg base CX0 1 fN fdN ["pool", "base"] spNext := ok_next FN
  refine F.ok scSteep (fun vs H Q E h => ?_) (fun cdv A outer s H vs Q E hr h => ?_)
  · obtain ⟨a, many, rest, rfl, _⟩ := h
    rfl
  · obtain ⟨a, many, rest, rfl, hP, hm2, hm7, hr0, hr9, q⟩ := h
    refine ⟨_, pss_cons (ps_set (i := 3) scSteep.nd rfl (Or.inr rfl) (pe_listRg rfl (by rfl) mL (prg_1 (by rfl) mR (pv 1))))
      (pss_cons (ps_for PassesOwn.never rfl (pi_range1 (by rfl) mR (pa_cons (pv 1) pa_nil)) (pg_name (i := 4) scSteep.nd rfl (Or.inl rfl))
        (pss_one (ps_expr (pe_bm PySem.F.plainAttrs_list PySem.F.slot_list_append PySem.F.type_list_append mt_append (pv 3) (pa_cons
          (pe_bm PySem.F.plainAttrs_list PySem.F.slot_list_pop PySem.F.type_list_pop mt_popAt (pv 3) (pa_cons (pe_call GN hr (by rfl) gN FN.kp bN .nil pass0 (pa_cons (pv 0) (pa_cons (pv 1) pa_nil))) pa_nil)) pa_nil)))))
      (pss_cons (ps_set (i := 5) scSteep.nd rfl (Or.inr rfl) (pe_op op_add (pv 2) (pe_call GN hr (by rfl) gN FN.kp bN .nil pass0 (pa_cons (pv 0) (pa_cons pe_int pa_nil)))))
      (pss_cons (ps_setLc (i := 6) (own := [("k", 4)]) (g := gName 4) (tt := tYes) rfl scSteep.nd rfl rfl (sw_true rfl rfl rfl (by decide +kernel)) (pi_range1 (by rfl) mR (pa_cons (pe_op op_sub (pv 1) pe_int) pa_nil))
        (blkOk_by (N := nSteep) (sc := defScope sSteep) (by decide +kernel)) (fun _ _ _ _ _ => pg_name (i := 4) scSteep.nd rfl (Or.inl rfl)) (fun _ _ _ _ _ => pts_nil)
        (fun _ _ _ _ _ => pe_tup (pa_cons (pe_op op_mul (pv 5) (pv 4)) (pa_cons (pv 4) (pa_cons (pe_op op_add (pv 4) pe_int) pa_nil)))))
      (pss_cons (ps_for PassesOwn.never rfl (pi_range2 (by rfl) mR (pa_cons pe_int (pa_cons (pv 1) pa_nil))) (pg_name (i := 7) scSteep.nd rfl (Or.inr rfl))
        (pss_cons (ps_expr (pe_bm PySem.F.plainAttrs_list PySem.F.slot_list_append PySem.F.type_list_append mt_append (pv 6) (pa_cons (pe_tup (pa_cons (pe_op op_mul pe_int (pv 7)) (pa_cons pe_int (pa_cons (pv 7) pa_nil)))) pa_nil)))
        (pss_one (ps_expr (pe_bm PySem.F.plainAttrs_list PySem.F.slot_list_extend PySem.F.type_list_extend mt_extend (pv 6) (pa_cons
          (pe_lc (own := [("k", 4)]) (g := gName 4) (tt := tYes) rfl scSteep.nd (pi_range1 (by rfl) mR (pa_cons (pe_op op_sub (pe_op op_sub (pv 1) pe_int) (pv 7)) pa_nil))
            (blkOk_by (N := nSteep) (sc := defScope sSteep) (by decide +kernel)) (fun _ _ _ _ _ => pg_name (i := 4) scSteep.nd rfl (Or.inl rfl)) (fun _ _ _ _ _ => pts_nil)
            (fun _ _ _ _ _ => pe_tup (pa_cons (pe_op op_add (pe_op op_mul pe_int (pv 7)) (pe_op op_mul (pv 5) (pe_op op_add (pv 4) pe_int))) (pa_cons (pe_op op_add (pv 7) (pv 4)) (pa_cons (pe_op op_add (pe_op op_add (pv 7) (pv 4)) pe_int) pa_nil)))))
          pa_nil))))))
      (pss_cons (ps_setLc (i := 8) (own := [("moment", 9), ("one", 10), ("other", 11)]) (g := gTup K 3 (gCons (gName 9) (gCons (gName 10) (gCons (gName 11) gNil)))) (tt := tYes) rfl scSteep.nd rfl rfl (sw_true rfl rfl rfl (by decide +kernel)) (pi_list (pv 6))
        (blkOk_by (N := nSteep) (sc := defScope sSteep) (by decide +kernel))
        (fun _ _ _ _ _ => pg_tup rfl (pgs_cons (pg_name (i := 9) scSteep.nd rfl (Or.inl rfl)) (pgs_cons (pg_name (i := 10) scSteep.nd rfl (Or.inl rfl)) (pgs_cons (pg_name (i := 11) scSteep.nd rfl (Or.inl rfl)) pgs_nil))))
        (fun _ _ _ _ _ => pts_nil)
        (fun _ _ _ _ _ => pe_tup (pa_cons (pv 9)
          (pa_cons (pe_callB (call_min2 rfl) (by rfl) mMn PyProof.Rows.boot_min (pa_cons (pe_ix (r := rIxL K) ix_list (pv 3) (pv 10) (fun _ _ => rfl)) (pa_cons (pe_ix (r := rIxL K) ix_list (pv 3) (pv 11) (fun _ _ => rfl)) pa_nil)))
          (pa_cons (pe_callB (call_max2 rfl) (by rfl) mMx PyProof.Rows.boot_max (pa_cons (pe_ix (r := rIxL K) ix_list (pv 3) (pv 10) (fun _ _ => rfl)) (pa_cons (pe_ix (r := rIxL K) ix_list (pv 3) (pv 11) (fun _ _ => rfl)) pa_nil))) pa_nil)))))
      (pss_one (ps_ret (pe_tup (pa_cons (pe_tup (pa_cons (pv 1) (pa_cons (pe_callTy call_tuple_of (by rfl) mT PyProof.Rows.boot_tuple (pa_cons (pe_callB (cr_sorted3 hr.units) (by rfl) mS PyProof.Rows.boot_sorted (pa_cons (pv 8) pa_nil)) pa_nil)) pa_nil)))
        (pa_cons (pe_ix ix_list (pv 3) pe_int (fun _ _ => rfl)) (pa_cons (pe_ix ix_list (pv 3) (pe_un un_neg pe_int) (fun _ _ => rfl)) pa_nil))))))))))), ?_⟩
    -- order = list(range(many))
    refine ⟨_, rfl, (many : Nat), rfl, RgOk.of_le (by omega) (by omega) (by omega) (by omega), fun o no => ?_⟩
    have ao : o ≠ a := fun e => by
      obtain ⟨_, _, _, h⟩ := hP
      rw [e, h] at no
      cases no
    have s1 := same_new (o := .lst (rgV 0 ((many : Nat) : Int))) no
    have o1 : (upd H o (.lst (rgV 0 ((many : Nat) : Int)))) o = some (.lst (natV (List.range many))) := by
      rw [upd_same]
      unfold rgV natV
      rw [Int.sub_zero, Int.toNat_natCast]
      congr 2
      refine List.map_congr_left fun i _ => ?_
      rw [Int.zero_add]
    have p1 := hP.same s1
    have k1 : Keeps a H (upd H o (.lst (rgV 0 ((many : Nat) : Int)))) := Same.keeps s1
    generalize (upd H o (.lst (rgV 0 ((many : Nat) : Int)))) = H1 at o1 p1 k1 ⊢
    -- the shuffle
    refine ⟨_, rfl, (many : Nat), rfl, by omega, by omega, for_range (lo := 0) (n := (((many : Nat) : Int)).toNat) (fun i σ H' => Keeps a H H' ∧ PoolAt H' a ∧ ∃ (y4 : Option V) (ord : List Nat), σ = [some (.ref a), some (.int (many : Nat)), some (.int rest), some (.ref o), y4, none, none, none, none, none, none, none] ∧
        H' o = some (.lst (natV ord)) ∧ ord.Perm (List.range many))
      ⟨k1, p1, none, _, rfl, o1, List.Perm.refl _⟩ ?_ ?_⟩
    · rintro i σ H2 hi ⟨k2, p2, y4, ord, rfl, o2, hp⟩
      have hl : ord.length = many := by rw [hp.length_eq, List.length_range]
      refine ⟨.ref o, rfl, .inl ⟨rfl, _, .inl (.inl o2)⟩, .ref o, rfl, .inl ⟨rfl, _, .inl (.inl o2)⟩, _, rfl, _, rfl, a, (many : Nat), rfl, p2, by omega, by omega, fun H3 d k3 p3 d0 d1 => ?_⟩
      have o3 := k3 o _ ao o2
      obtain ⟨j, rfl⟩ : ∃ j : Nat, d = (j : Int) := ⟨d.toNat, by omega⟩
      obtain ⟨x, hx⟩ : ∃ x, ord[j]? = some x := ⟨ord[j]'(by omega), List.getElem?_eq_getElem (by omega)⟩
      refine ⟨o, natV ord, (j : Nat), j, .int (x : Nat), rfl, rfl, o3, by omega, by omega, (ixN_seq (ixN_nat (by rw [natV_len]; omega))).1, natV_get hx, ?_⟩
      refine ⟨o, (natV ord).eraseIdx j, .int (x : Nat), rfl, rfl, upd_same, small1000 (by have := len_erase (natV ord) j; rw [natV_len] at this; omega), ?_⟩
      obtain ⟨x0, y0, z0, h0⟩ := p3
      rw [upd_upd]
      refine ⟨keeps_own (k2.trans k3) no, ⟨x0, y0, z0, at_ne h0 ao.symm⟩, _, ord.eraseIdx j ++ [x], rfl, ?_, (perm_rot hx).trans hp⟩
      rw [upd_same]
      unfold natV
      rw [List.map_append, List.eraseIdx_eq_take_drop_succ, List.eraseIdx_eq_take_drop_succ, List.map_append, List.map_take, List.map_drop]
      rfl
    · rintro σ H2 ⟨k2, p2, y4, ord, rfl, o2, hp⟩
      have hl : ord.length = many := by rw [hp.length_eq, List.length_range]
      have hlt : ∀ n ∈ ord, n < many := fun n hn => List.mem_range.mp (hp.mem_iff.mp hn)
      have hnd : ord.Nodup := hp.nodup_iff.mpr List.nodup_range
      -- gap = rest + next(pool, 2)
      refine ⟨.int rest, rfl, _, rfl, a, 2, rfl, p2, by decide, by decide, fun H3 d k3 p3 d0 d1 => ?_⟩
      refine ⟨rest, d, rfl, rfl, ?_⟩
      have o3 := k3 o _ ao o2
      have k03 := k2.trans k3
      dsimp only
      obtain ⟨gap, hgap⟩ : ∃ g : Int, g = rest + d := ⟨_, rfl⟩
      rw [← hgap]
      have g0 : 0 ≤ gap := by omega
      have g9 : gap ≤ 9 := by omega
      clear hgap
      -- meets = [(gap * k, k, k + 1) for k in range(many - 1)]
      refine ⟨.int (many : Nat), rfl, (many : Nat), 1, rfl, rfl, (many : Nat) - 1, rfl, by omega, by omega, fun m nm => ?_⟩
      have nm0 : H3 m = none := nm
      have mo : m ≠ o := fun e => by rw [e, o3] at nm; cases nm
      refine lc_range (lo := 0) (n := (((many : Nat) : Int) - 1).toNat) (fun i H' => Same H3 H' ∧ ∃ cs : List (Addr × Stp), H' m = some (.lst (refs cs)) ∧ At3 H' cs ∧ (∀ b ∈ cs, b.2.2.1 < many ∧ b.2.2.2 < many) ∧ cs.length = i)
        ⟨same_new nm, [], upd_same, (fun b hb => by cases hb), (fun b hb => by cases hb), rfl⟩ ?_ ?_
      · rintro i H4 hi ⟨s4, cs, m4, x4, b4, l4⟩
        refine ⟨rfl, .int gap, rfl, .int (0 + (i : Nat)), rfl, gap, 0 + (i : Nat), rfl, rfl, .inl ⟨by omega, by omega⟩, .int (0 + (i : Nat)), rfl, .int (0 + (i : Nat)), rfl, 0 + (i : Nat), 1, rfl, rfl, (by show 3 ≤ sizeLine; decide), fun p np => ?_⟩
        have pm : p ≠ m := fun e => by rw [e, m4] at np; cases np
        refine ⟨refs cs, at_new m4 np, by rw [refs_length]; exact small1000 (by omega), same_put (same_put s4 (Same.free s4 np)) nm0, cs ++ [(p, (gap * (0 + (i : Nat)), i, i + 1))], by rw [upd_same, refs_append]; rfl, fun c hc => ?_, fun c hc => ?_, by rw [List.length_append, l4]; rfl⟩
        · rcases List.mem_append.mp hc with hc | hc
          · exact at_ne (at_new (x4 c hc) np) (ne_of (x4 c hc) m4 (by intro z; cases z))
          · have e : c = (p, (gap * (0 + (i : Nat)), i, i + 1)) := by simpa using hc
            subst e
            refine at_ne (Eq.trans upd_same (congrArg some (tup_eq rfl ?_ ?_))) pm
            · omega
            · show 0 + (i : Int) + 1 = ((i + 1 : Nat) : Int)
              omega
        · rcases List.mem_append.mp hc with hc | hc
          · exact b4 c hc
          · have e : c = (p, (gap * (0 + (i : Nat)), i, i + 1)) := by simpa using hc
            subst e
            show i < many ∧ i + 1 < many
            omega
      · rintro H4 ⟨s4, cs, m4, x4, b4, l4⟩
        -- for far in range(2, many)
        have hn : (((many : Nat) : Int) - 2).toNat = many - 2 := by omega
        refine ⟨.int (many : Nat), rfl, 2, (many : Nat), rfl, ⟨by omega, by omega, by omega, by omega⟩, ?_⟩
        rw [hn]
        refine for_range (lo := 2) (n := many - 2) (fun i σ H' => Same H3 H' ∧ ∃ (y7 : Option V) (cs : List (Addr × Stp)), σ = [some (.ref a), some (.int (many : Nat)), some (.int rest), some (.ref o), y4, some (.int gap), some (.ref m), y7, none, none, none, none] ∧
            H' m = some (.lst (refs cs)) ∧ At3 H' cs ∧ (∀ b ∈ cs, b.2.2.1 < many ∧ b.2.2.2 < many) ∧ cs.length + tri (many - 2 - i) = many - 1 + tri (many - 2))
          ⟨s4, none, cs, rfl, m4, x4, b4, by rw [l4, Nat.sub_zero]; omega⟩ ?_ ?_
        · rintro i σ H5 hi ⟨s5, y7, cs, rfl, m5, x5, b5, l5⟩
          have hcs : cs.length ≤ 24 := by
            have ht := tri_le (n := many - 2) (by omega)
            omega
          obtain ⟨r, hr'⟩ : ∃ r, many - 2 - i = r + 1 := ⟨many - 3 - i, by omega⟩
          have hr2 : many - 2 - (i + 1) = r := by omega
          rw [hr'] at l5
          have l5' : cs.length + (r + 1 + tri r) = many - 1 + tri (many - 2) := l5
          -- meets.append((1000 * far, 0, far))
          refine ⟨.ref m, rfl, .inl ⟨rfl, _, .inl (.inl m5)⟩, .int (2 + (i : Nat)), rfl, 1000, 2 + (i : Nat), rfl, rfl, .inl ⟨by decide, by decide⟩, .int (2 + (i : Nat)), rfl, (by show 3 ≤ sizeLine; decide), fun p np => ?_⟩
          have pm : p ≠ m := fun e => by rw [e, m5] at np; cases np
          refine ⟨m, refs cs, _, rfl, rfl, at_new m5 np, by rw [refs_length]; exact small1000 (by omega), ?_⟩
          have s6 : Same H3 (upd (upd H5 p (.tup [.int (1000 * (2 + (i : Nat))), .int 0, .int (2 + (i : Nat))])) m (.lst (refs cs ++ [.ref p]))) := same_put (same_put s5 (Same.free s5 np)) nm0
          have m6 : (upd (upd H5 p (.tup [.int (1000 * (2 + (i : Nat))), .int 0, .int (2 + (i : Nat))])) m (.lst (refs cs ++ [.ref p]))) m = some (.lst (refs (cs ++ [(p, ((1000 * (2 + (i : Nat)) : Int), 0, 2 + i))]))) := by
            rw [upd_same, refs_append]
            rfl
          have x6 : At3 (upd (upd H5 p (.tup [.int (1000 * (2 + (i : Nat))), .int 0, .int (2 + (i : Nat))])) m (.lst (refs cs ++ [.ref p]))) (cs ++ [(p, ((1000 * (2 + (i : Nat)) : Int), 0, 2 + i))]) := fun c hc => by
            rcases List.mem_append.mp hc with hc | hc
            · exact at_ne (at_new (x5 c hc) np) (ne_of (x5 c hc) m5 (by intro z; cases z))
            · have e : c = (p, ((1000 * (2 + (i : Nat)) : Int), 0, 2 + i)) := by simpa using hc
              subst e
              refine at_ne (Eq.trans upd_same (congrArg some (tup_eq rfl rfl ?_))) pm
              show 2 + (i : Int) = ((2 + i : Nat) : Int)
              omega
          have b6 : ∀ b ∈ cs ++ [(p, ((1000 * (2 + (i : Nat)) : Int), 0, 2 + i))], b.2.2.1 < many ∧ b.2.2.2 < many := fun c hc => by
            rcases List.mem_append.mp hc with hc | hc
            · exact b5 c hc
            · have e : c = (p, ((1000 * (2 + (i : Nat)) : Int), 0, 2 + i)) := by simpa using hc
              subst e
              show 0 < many ∧ 2 + i < many
              omega
          have l6 : (cs ++ [(p, ((1000 * (2 + (i : Nat)) : Int), 0, 2 + i))]).length + (r + tri r) = many - 1 + tri (many - 2) := by
            rw [List.length_append]
            show cs.length + 1 + (r + tri r) = _
            omega
          have c6 : (cs ++ [(p, ((1000 * (2 + (i : Nat)) : Int), 0, 2 + i))]).length ≤ 30 := by
            rw [List.length_append]
            show cs.length + 1 ≤ 30
            omega
          dsimp only
          generalize (upd (upd H5 p (.tup [.int (1000 * (2 + (i : Nat))), .int 0, .int (2 + (i : Nat))])) m (.lst (refs cs ++ [.ref p]))) = H6 at s6 m6 x6 ⊢
          generalize cs ++ [(p, ((1000 * (2 + (i : Nat)) : Int), 0, 2 + i))] = cs6 at m6 x6 b6 l6 c6
          -- meets.extend([..])
          refine ⟨.ref m, rfl, .inl ⟨rfl, _, .inl (.inl m6)⟩, .int (many : Nat), rfl, (many : Nat), 1, rfl, rfl, .int (2 + (i : Nat)), rfl, (many : Nat) - 1, 2 + (i : Nat), rfl, rfl, (many : Nat) - 1 - (2 + (i : Nat)), rfl, by omega, by omega, fun D nD => ?_⟩
          have hn2 : (((many : Nat) : Int) - 1 - (2 + (i : Nat))).toNat = r := by omega
          rw [hn2]
          have Dm : D ≠ m := fun e => by rw [e, m6] at nD; cases nD
          refine lc_range (lo := 0) (n := r) (fun j H' => Same H6 H' ∧ ∃ es : List (Addr × Stp), H' D = some (.lst (refs es)) ∧ At3 H' es ∧ (∀ b ∈ es, b.2.2.1 < many ∧ b.2.2.2 < many) ∧ es.length = j)
            ⟨same_new nD, [], upd_same, (fun b hb => by cases hb), (fun b hb => by cases hb), rfl⟩ ?_ ?_
          · rintro j H7 hj ⟨s7, es, D7, x7, b7, l7⟩
            refine ⟨rfl, .int (2 + (i : Nat)), rfl, 1000, 2 + (i : Nat), rfl, rfl, .inl ⟨by decide, by decide⟩, .int gap, rfl, .int (0 + (j : Nat)), rfl, 0 + (j : Nat), 1, rfl, rfl, gap, 0 + (j : Nat) + 1, rfl, rfl, .inl ⟨by omega, by omega⟩, _, _, rfl, rfl,
              .int (2 + (i : Nat)), rfl, .int (0 + (j : Nat)), rfl, 2 + (i : Nat), 0 + (j : Nat), rfl, rfl, .int (2 + (i : Nat)), rfl, .int (0 + (j : Nat)), rfl, 2 + (i : Nat), 0 + (j : Nat), rfl, rfl, _, 1, rfl, rfl, (by show 3 ≤ sizeLine; decide), fun p2 np2 => ?_⟩
            have pD : p2 ≠ D := fun e => by rw [e, D7] at np2; cases np2
            refine ⟨refs es, at_new D7 np2, by rw [refs_length]; exact small1000 (by omega), same_put (same_put s7 (Same.free s7 np2)) nD, es ++ [(p2, (1000 * (2 + (i : Nat)) + gap * (0 + (j : Nat) + 1), 2 + i + j, 2 + i + j + 1))], by rw [upd_same, refs_append]; rfl, fun c hc => ?_, fun c hc => ?_, by rw [List.length_append, l7]; rfl⟩
            · rcases List.mem_append.mp hc with hc | hc
              · exact at_ne (at_new (x7 c hc) np2) (ne_of (x7 c hc) D7 (by intro z; cases z))
              · have e : c = (p2, (1000 * (2 + (i : Nat)) + gap * (0 + (j : Nat) + 1), 2 + i + j, 2 + i + j + 1)) := by simpa using hc
                subst e
                refine at_ne (Eq.trans upd_same (congrArg some (tup_eq rfl ?_ ?_))) pD
                · show 2 + (i : Int) + (0 + (j : Int)) = ((2 + i + j : Nat) : Int)
                  omega
                · show 2 + (i : Int) + (0 + (j : Int)) + 1 = ((2 + i + j + 1 : Nat) : Int)
                  omega
            · rcases List.mem_append.mp hc with hc | hc
              · exact b7 c hc
              · have e : c = (p2, (1000 * (2 + (i : Nat)) + gap * (0 + (j : Nat) + 1), 2 + i + j, 2 + i + j + 1)) := by simpa using hc
                subst e
                show 2 + i + j < many ∧ 2 + i + j + 1 < many
                omega
          · rintro H7 ⟨s7, es, D7, x7, b7, l7⟩
            have m7 := s7 _ _ m6
            refine ⟨m, D, refs cs6, refs es, rfl, rfl, m7, D7, by rw [refs_length, refs_length]; exact big (by omega), ?_⟩
            refine ⟨same_put (s6.trans s7) nm0, _, cs6 ++ es, rfl, by rw [upd_same, refs_append], fun c hc => ?_, fun c hc => ?_, by rw [List.length_append, l7, hr2]; omega⟩
            · rcases List.mem_append.mp hc with hc | hc
              · exact at_ne (s7 _ _ (x6 c hc)) (ne_of (x6 c hc) m6 (by intro z; cases z))
              · exact at_ne (x7 c hc) (ne_of (x7 c hc) m7 (by intro z; cases z))
            · rcases List.mem_append.mp hc with hc | hc
              · exact b6 c hc
              · exact b7 c hc
        · rintro σ H5 ⟨s5, y7, cs, rfl, m5, x5, b5, l5⟩
          have hcs : cs.length ≤ 24 := by
            have ht := tri_le (n := many - 2) (by omega)
            omega
          have o5 := s5 _ _ o3
          -- found = [..]
          refine ⟨.ref m, rfl, m, rfl, ⟨_, SqL.of m5⟩, fun D nD => ?_⟩
          refine lc_list (K := K) (a := m) (xs := refs cs) (fun i H' => Same H5 H' ∧ ∃ es : List (Addr × Stp), H' D = some (.lst (refs es)) ∧ At3 H' es ∧ (∀ b ∈ es, b.2.2.1 < many ∧ b.2.2.2 < many) ∧ es.length = i)
            ⟨same_new nD, [], upd_same, (fun b hb => by cases hb), (fun b hb => by cases hb), rfl⟩ (fun i H' _ ⟨sm, _⟩ => SqL.of (sm _ _ m5)) ?_ ?_
          · rintro i x H6 hx ⟨s6, es, D6, x6, b6, l6⟩
            obtain ⟨b, hb, rfl⟩ := refs_get hx
            have hbm := List.mem_of_getElem? hb
            have hb6 := s6 _ _ (x5 b hbm)
            obtain ⟨hb1, hb2⟩ := b5 b hbm
            have o6 := s6 _ _ o5
            have hi24 : i < 24 := by
              obtain ⟨hi, _⟩ := List.getElem?_eq_some_iff.mp hb
              omega
            obtain ⟨n1, hn1⟩ : ∃ n, ord[b.2.2.1]? = some n := ⟨ord[b.2.2.1]'(by omega), List.getElem?_eq_getElem (by omega)⟩
            obtain ⟨n2, hn2⟩ : ∃ n, ord[b.2.2.2]? = some n := ⟨ord[b.2.2.2]'(by omega), List.getElem?_eq_getElem (by omega)⟩
            have hn1m := hlt n1 (List.mem_of_getElem? hn1)
            have hn2m := hlt n2 (List.mem_of_getElem? hn2)
            have g1 := atI_nat (natV_get hn1)
            have g2 := atI_nat (natV_get hn2)
            refine ⟨b.1, stpV b.2, rfl, SqT.of hb6, rfl, _, _, rfl, _, _, rfl, _, _, rfl, rfl, ?_⟩
            refine ⟨rfl, .int b.2.1, rfl, .ref o, rfl, .int (b.2.2.1 : Nat), rfl, o, _, _, _, rfl, rfl, SqL.of o6, g1, .ref o, rfl, .int (b.2.2.2 : Nat), rfl, o, _, _, _, rfl, rfl, SqL.of o6, g2, (n1 : Nat), (n2 : Nat), rfl,
              .ref o, rfl, .int (b.2.2.1 : Nat), rfl, o, _, _, _, rfl, rfl, SqL.of o6, g1, .ref o, rfl, .int (b.2.2.2 : Nat), rfl, o, _, _, _, rfl, rfl, SqL.of o6, g2, (n1 : Nat), (n2 : Nat), rfl, (by show 3 ≤ sizeLine; decide), fun p np => ?_⟩
            obtain ⟨u, hu, hub⟩ : ∃ u : Nat, (if ((n2 : Nat) : Int) < ((n1 : Nat) : Int) then ((n2 : Nat) : Int) else ((n1 : Nat) : Int)) = (u : Int) ∧ u < many := by
              by_cases h : ((n2 : Nat) : Int) < ((n1 : Nat) : Int)
              · exact ⟨n2, if_pos h, hn2m⟩
              · exact ⟨n1, if_neg h, hn1m⟩
            obtain ⟨v, hv, hvb⟩ : ∃ v : Nat, (if ((n2 : Nat) : Int) > ((n1 : Nat) : Int) then ((n2 : Nat) : Int) else ((n1 : Nat) : Int)) = (v : Int) ∧ v < many := by
              by_cases h : ((n2 : Nat) : Int) > ((n1 : Nat) : Int)
              · exact ⟨n2, if_pos h, hn2m⟩
              · exact ⟨n1, if_neg h, hn1m⟩
            have pD : p ≠ D := fun e => by rw [e, D6] at np; cases np
            refine ⟨refs es, at_new D6 np, by rw [refs_length]; exact small1000 (by omega), same_put (same_put s6 (Same.free s6 np)) nD, es ++ [(p, (b.2.1, u, v))], by rw [upd_same, refs_append]; rfl, fun c hc => ?_, fun c hc => ?_, by rw [List.length_append, l6]; rfl⟩
            · rcases List.mem_append.mp hc with hc | hc
              · exact at_ne (at_new (x6 c hc) np) (ne_of (x6 c hc) D6 (by intro z; cases z))
              · have e : c = (p, (b.2.1, u, v)) := by simpa using hc
                subst e
                exact at_ne (Eq.trans upd_same (congrArg some (tup_eq rfl hu hv))) pD
            · rcases List.mem_append.mp hc with hc | hc
              · exact b6 c hc
              · have e : c = (p, (b.2.1, u, v)) := by simpa using hc
                subst e
                exact ⟨hub, hvb⟩
          · rintro H6 ⟨s6, es, D6, x6, b6, l6⟩
            rw [refs_length] at l6
            -- the end
            refine ⟨_, rfl, _, rfl, D, es, rfl, SqL.of D6, x6, by omega, fun bs' r hp' hw hrn => ?_⟩
            have t1 := same_new (o := .lst (refs bs')) hrn
            refine ⟨r, _, rfl, .inl ⟨SqL.of upd_same, fun t nt => ?_⟩⟩
            have t2 := same_new (o := .tup (refs bs')) nt
            refine ⟨(by show 2 ≤ sizeLine; decide), fun x nx => ?_⟩
            have t3 := same_new (o := .tup [V.int (many : Nat), V.ref t]) nx
            have t13 := (t1.trans t2).trans t3
            have oE := t13 _ _ (s6 _ _ o5)
            obtain ⟨e0, h0⟩ : ∃ n, ord[0]? = some n := ⟨ord[0]'(by omega), List.getElem?_eq_getElem (by omega)⟩
            have hne : ord ≠ [] := fun z => by rw [z] at hl; simp at hl; omega
            have gl := natV_last hne
            have hdist : ord.getLast hne ≠ e0 := by
              intro z
              rw [List.getLast_eq_getElem] at z
              obtain ⟨h00, e00⟩ := List.getElem?_eq_some_iff.mp h0
              rw [← e00] at z
              have := (List.getElem_inj hnd).mp z
              omega
            refine ⟨.ref o, rfl, o, _, 0, .int ((e0 : Nat) : Int), rfl, rfl, SqL.of oE, atI_nat (j := 0) (natV_get h0), .ref o, rfl, 1, rfl, o, _, -1, .int ((ord.getLast hne : Nat) : Int), rfl, rfl, SqL.of oE, gl, (by show 3 ≤ sizeLine; decide), fun y ny => ?_⟩
            have t4 := same_new (o := .tup [V.ref x, .int ((e0 : Nat) : Int), .int ((ord.getLast hne : Nat) : Int)]) ny
            have hend := ((s5.trans s6).trans t13).trans t4
            exact q _ y x bs' e0 (ord.getLast hne) (k03.trans (Same.keeps hend)) (p3.same hend) (web_made hp' (x6.same (t13.trans t4)) b6 (by omega) (t4 _ _ (t3 _ _ upd_same)) (t4 _ _ upd_same)) (hlt _ (List.mem_of_getElem? h0)) (hlt _ (List.getLast_mem hne)) hdist upd_same
end
end WM

namespace WM
open PySem PySem.Spec PyProof.Rows L2
theorem goal_ne {many s d : Int} (hm : 2 ≤ many) (h0 : 0 ≤ s) (h1 : s < many) (d0 : 0 ≤ d) (d1 : d < many - 1) : (s + 1 + d) % many ≠ s := by
  by_cases h : s + 1 + d < many
  · rw [Int.emod_eq_of_lt (by omega) h]
    omega
  · rw [← Int.sub_emod_right (s + 1 + d) many, Int.emod_eq_of_lt (by omega) (by omega)]
    omega
section
variable {P : Program} {w : World} {K : PySem.W.Frag} {mg : Str → Option Value} {base : Heap}
/-! ### _law_scene -/
abbrev nScene : List Str := ["pool", "least", "rest", "many", "start", "goal", "web", "moments", "first", "meet"]
theorem scScene : FnScope nScene ["pool", "least"] (defScope sScene) := ⟨rfl, rfl, rfl, by decide +kernel, rfl, by decide +kernel, by decide +kernel⟩
def spScene : Sp := fun vs H Q _ => ∃ a : Addr, vs = [.ref a, .int 2] ∧ PoolAt H a ∧
  ∀ (H' : Hp) (p x : Addr) (bs : List (Addr × Stp)) (many st goal : Nat) (r first : Int), Keeps a H H' → WebAt H' x many bs → many ≤ 7 → st < many → goal < many → goal ≠ st → 0 ≤ r → H' p = some (.tup [.ref x, .int r, .int (st : Nat), .int (goal : Nat), .int first]) → Q (.ref p) H'
theorem ok_scene {f fN fD fS : Addr} {fd fdN fdD fdS : FuncData} (F : Fun K "_law_scene" "_law_scene" sScene f fd) (FN : Fun K "_law_next" "_law_next" sNext fN fdN) (bN : Binds K fdN ["pool", "base"] []) (gN : mg "_law_next" = some (.ref fN))
    (FD : Fun K "_law_drawn_web" "_law_drawn_web" sDrawn fD fdD) (bD : Binds K fdD ["pool", "many"] []) (gD : mg "_law_drawn_web" = some (.ref fD)) (GD : FnOk P w K mg base CX0 3 fD fdD ["pool", "many"] spDrawn)
    (FS : Fun K "_law_steep_web" "_law_steep_web" sSteep fS fdS) (bS : Binds K fdS ["pool", "many", "rest"] []) (gS : mg "_law_steep_web" = some (.ref fS)) (GS : FnOk P w K mg base CX0 2 fS fdS ["pool", "many", "rest"] spSteep)
    (mMn : mg "min" = none) (mMx : mg "max" = none) (mLen : mg "len" = none) : FnOk P w K mg base CX0 4 f fd ["pool", "least"] spScene := by
  have GN : FnOk P w K mg base CX0 1 fN fdN ["pool", "base"] spNext := ok_next FN
  refine F.ok scScene (fun vs H Q E h => ?_) (fun cdv A outer s H vs Q E hr h => ?_)
  · obtain ⟨a, rfl, _⟩ := h
    rfl
  · obtain ⟨a, rfl, hP, q⟩ := h
    have hr1 := hr.mono (j := 1) (by decide)
    have hr2 := hr.mono (j := 2) (by decide)
    refine ⟨_, pss_cons (ps_set (i := 2) scScene.nd rfl (Or.inl rfl) (pe_ix ix_list
        (pe_lst (pa_cons pe_int (pa_cons pe_int (pa_cons pe_int (pa_cons pe_int (pa_cons pe_int (pa_cons (pe_op op_mul (pe_call GN hr1 (by rfl) gN FN.kp bN .nil pass0 (pa_cons (pv 0) (pa_cons pe_int pa_nil))) pe_int) (pa_cons (pe_op op_pow pe_int pe_int) pa_nil))))))))
        (pe_call GN hr1 (by rfl) gN FN.kp bN .nil pass0 (pa_cons (pv 0) (pa_cons pe_int pa_nil))) (fun _ _ => rfl)))
      (pss_cons (ps_set (i := 3) scScene.nd rfl (Or.inl rfl) (pe_op op_add (pv 1) (pe_call GN hr1 (by rfl) gN FN.kp bN .nil pass0 (pa_cons (pv 0) (pa_cons (pe_op op_sub pe_int (pv 1)) pa_nil)))))
      (pss_cons (ps_set (i := 4) scScene.nd rfl (Or.inl rfl) (pe_call GN hr1 (by rfl) gN FN.kp bN .nil pass0 (pa_cons (pv 0) (pa_cons (pv 3) pa_nil))))
      (pss_cons (ps_set (i := 5) scScene.nd rfl (Or.inl rfl) (pe_op op_mod (pe_op op_add (pe_op op_add (pv 4) pe_int) (pe_call GN hr1 (by rfl) gN FN.kp bN .nil pass0 (pa_cons (pv 0)
          (pa_cons (pe_callB (call_max2 rfl) (by rfl) mMx PyProof.Rows.boot_max (pa_cons pe_int (pa_cons (pe_op op_sub (pv 3) pe_int) pa_nil))) pa_nil)))) (pv 3)))
      (pss_cons (ps_set (i := 6) scScene.nd rfl (Or.inl rfl) (pe_call GD hr (by rfl) gD FD.kp bD .nil pass0 (pa_cons (pv 0) (pa_cons (pv 3) pa_nil))))
      (C8.pss_cut (ps_if (PW.pt (pw_and (pt_cmpR op_lt (pv 2) pe_int (nomark _)) (pw_and (pt_cmpR op_gt (pv 3) pe_int (nomark _)) (pw_and1 (pt_cmpR op_eq (pe_call GN hr1 (by rfl) gN FN.kp bN .nil pass0 (pa_cons (pv 0) (pa_cons pe_int pa_nil))) pe_int (nomark _))))))
          (pss_one (ps_asg (pe_call GS hr2 (by rfl) gS FS.kp bS .nil pass0 (pa_cons (pv 0) (pa_cons (pv 3) (pa_cons (pv 2) pa_nil))))
            (pg_tup rfl (pgs_cons (pg_name (i := 6) scScene.nd rfl (Or.inl rfl)) (pgs_cons (pg_name (i := 4) scScene.nd rfl (Or.inl rfl)) (pgs_cons (pg_name (i := 5) scScene.nd rfl (Or.inl rfl)) pgs_nil)))))) pss_nil)
      (pss_cons (ps_set (i := 7) scScene.nd rfl (Or.inl rfl) (pe_op op_cat
          (pe_lc (own := [("meet", 9)]) (g := gName 9) (tt := tYes) rfl scScene.nd (pi_tup (pe_ix ix_tup (pv 6) pe_int (fun _ _ => rfl))) (blkOk_by (N := nScene) (sc := defScope sScene) (by decide +kernel))
            (fun _ _ _ _ _ => pg_name (i := 9) scScene.nd rfl (Or.inl rfl)) (fun _ _ _ _ _ => pts_nil) (fun _ _ _ _ _ => pe_ix (r := rIxT K) ix_tup (pv 9) pe_int (fun _ _ => rfl)))
          (pe_lst (pa_cons pe_int pa_nil))))
      (pss_cons (ps_set (i := 8) scScene.nd rfl (Or.inl rfl) (pe_ix ix_list
          (pe_lst (pa_cons (pe_callB (cr_min rfl) (by rfl) mMn PyProof.Rows.boot_min (pa_cons (pv 7) pa_nil))
            (pa_cons (pe_ix ix_list (pv 7) (pe_call GN hr1 (by rfl) gN FN.kp bN .nil pass0 (pa_cons (pv 0) (pa_cons (pe_callB call_len_seq (by rfl) mLen PySem.boot_len (pa_cons (pv 7) pa_nil)) pa_nil))) (fun _ _ => rfl)) pa_nil)))
          (pe_call GN hr1 (by rfl) gN FN.kp bN .nil pass0 (pa_cons (pv 0) (pa_cons pe_int pa_nil))) (fun _ _ => rfl)))
      (pss_cons (ps_set (i := 8) scScene.nd rfl (Or.inl rfl) (pe_op op_add (pv 8) (pe_ix ix_list
          (pe_lst (pa_cons pe_int (pa_cons pe_int (pa_cons pe_int (pa_cons (pe_un un_neg pe_int) (pa_cons pe_int (pa_cons (pe_un un_neg (pe_op op_pow pe_int pe_int)) (pa_cons (pe_op op_pow pe_int pe_int) pa_nil))))))))
          (pe_call GN hr1 (by rfl) gN FN.kp bN .nil pass0 (pa_cons (pv 0) (pa_cons pe_int pa_nil))) (fun _ _ => rfl))))
      (pss_one (ps_ret (pe_tup (pa_cons (pv 6) (pa_cons (pv 2) (pa_cons (pv 4) (pa_cons (pv 5) (pa_cons (pv 8) pa_nil)))))))))))))))), ?_⟩
    have ne_a : ∀ {H1 : Hp} {l : Addr}, PoolAt H1 a → H1 l = none → l ≠ a := fun {H1 l} p n e => by
      obtain ⟨_, _, _, h⟩ := p
      rw [e, h] at n
      cases n
    -- rest
    refine ⟨_, rfl, a, 100000, rfl, hP, by decide, by decide, fun H1 d1 k1 p1 d10 d11 => ?_⟩
    refine ⟨d1, 10000, rfl, rfl, .inr ⟨by decide, by decide⟩, 10, 9, rfl, rfl, ⟨by decide, by decide, by decide⟩, (by show 7 ≤ sizeLine; decide), fun l nl => ?_⟩
    dsimp only
    have la := ne_a p1 nl
    have sl := same_new (o := .lst [.int 0, .int 1, .int 2, .int 3, .int 8, .int (d1 * 10000), .int (10 ^ Int.toNat 9)]) nl
    refine ⟨_, rfl, a, 7, rfl, p1.same sl, by decide, by decide, fun H2 d2 k2 p2 d20 d21 => ?_⟩
    have l2 := k2 l _ la upd_same
    obtain ⟨r, hr', hr0⟩ : ∃ r : Int, atI [V.int 0, .int 1, .int 2, .int 3, .int 8, .int (d1 * 10000), .int (10 ^ Int.toNat 9)] d2 = some (.int r) ∧ 0 ≤ r := by
      have : d2 = 0 ∨ d2 = 1 ∨ d2 = 2 ∨ d2 = 3 ∨ d2 = 4 ∨ d2 = 5 ∨ d2 = 6 := by omega
      rcases this with rfl | rfl | rfl | rfl | rfl | rfl | rfl
      · exact ⟨_, rfl, by omega⟩
      · exact ⟨_, rfl, by omega⟩
      · exact ⟨_, rfl, by omega⟩
      · exact ⟨_, rfl, by omega⟩
      · exact ⟨_, rfl, by omega⟩
      · exact ⟨_, rfl, by omega⟩
      · exact ⟨_, rfl, by decide⟩
    have k02 : Keeps a H H2 := (k1.trans (Same.keeps sl)).trans k2
    refine ⟨l, _, d2, .int r, rfl, rfl, SqL.of l2, hr', ?_⟩
    -- many
    refine ⟨.int 2, rfl, _, rfl, .int 2, rfl, 8, 2, rfl, rfl, a, 8 - 2, rfl, p2, by decide, by decide, fun H3 d3 k3 p3 d30 d31 => ?_⟩
    refine ⟨2, d3, rfl, rfl, ?_⟩
    dsimp only
    obtain ⟨many, hmany⟩ : ∃ many : Nat, 2 + d3 = (many : Int) := ⟨(2 + d3).toNat, by omega⟩
    rw [hmany]
    have hm2 : 2 ≤ many := by omega
    have hm7 : many ≤ 7 := by omega
    -- start
    refine ⟨_, rfl, _, rfl, a, (many : Nat), rfl, p3, by omega, by omega, fun H4 d4 k4 p4 d40 d41 => ?_⟩
    obtain ⟨st, rfl⟩ : ∃ st : Nat, d4 = (st : Int) := ⟨d4.toNat, by omega⟩
    -- goal
    refine ⟨.int (st : Nat), rfl, (st : Nat), 1, rfl, rfl, _, rfl, .int (many : Nat), rfl, (many : Nat), 1, rfl, rfl, 1, (many : Nat) - 1, rfl, a, _, rfl, p4, ?_⟩
    have hmax : (if (((many : Nat) : Int) - 1) > 1 then (((many : Nat) : Int) - 1) else 1) = ((many : Nat) : Int) - 1 := by split <;> omega
    rw [hmax]
    refine ⟨by omega, by omega, fun H5 d5 k5 p5 d50 d51 => ?_⟩
    refine ⟨(st : Nat) + 1, d5, rfl, rfl, .int (many : Nat), rfl, (st : Nat) + 1 + d5, (many : Nat), rfl, rfl, by omega, ?_⟩
    dsimp only
    have g0 : 0 ≤ (((st : Nat) : Int) + 1 + d5) % ((many : Nat) : Int) := Int.emod_nonneg _ (by omega)
    have g1 : (((st : Nat) : Int) + 1 + d5) % ((many : Nat) : Int) < ((many : Nat) : Int) := Int.emod_lt_of_pos _ (by omega)
    have g2 := goal_ne (many := (many : Nat)) (s := (st : Nat)) (d := d5) (by omega) (by omega) d41 d50 d51
    obtain ⟨goal, hgoal⟩ : ∃ goal : Nat, (((st : Nat) : Int) + 1 + d5) % ((many : Nat) : Int) = (goal : Int) := ⟨((((st : Nat) : Int) + 1 + d5) % ((many : Nat) : Int)).toNat, by omega⟩
    rw [hgoal] at g0 g1 g2 ⊢
    have k05 := ((k02.trans k3).trans k4).trans k5
    -- web
    refine ⟨_, rfl, _, rfl, a, many, rfl, p5, hm2, hm7, fun H6 x bs k6 p6 hW => ?_⟩
    have k06 := k05.trans k6
    -- the steep one
    refine ⟨fun σ H' => Keeps a H H' ∧ PoolAt H' a ∧ ∃ (x : Addr) (bs : List (Addr × Stp)) (st goal : Nat), σ = [some (.ref a), some (.int 2), some (.int r), some (.int (many : Nat)), some (.int (st : Nat)), some (.int (goal : Nat)), some (.ref x), none, none, none] ∧
        WebAt H' x many bs ∧ st < many ∧ goal < many ∧ goal ≠ st, ?_, ?_⟩
    · have stay : ∀ (H' : Hp), Keeps a H6 H' → PoolAt H' a → Keeps a H H' ∧ PoolAt H' a ∧ ∃ (x' : Addr) (bs : List (Addr × Stp)) (st' goal' : Nat), [some (V.ref a), some (.int 2), some (.int r), some (.int (many : Nat)), some (.int (st : Nat)), some (.int (goal : Nat)), some (.ref x), none, none, none] =
          [some (.ref a), some (.int 2), some (.int r), some (.int (many : Nat)), some (.int (st' : Nat)), some (.int (goal' : Nat)), some (.ref x'), none, none, none] ∧ WebAt H' x' many bs ∧ st' < many ∧ goal' < many ∧ goal' ≠ st' := fun H' k p => by
        obtain ⟨_, _, _, hy⟩ := p6
        exact ⟨k06.trans k, p, x, bs, st, goal, rfl, hW.keeps k hy, by omega, by omega, fun e => g2 (by rw [e])⟩
      refine ⟨.int r, rfl, r, 9, rfl, rfl, _, rfl, ite2 (fun e1 => ?_) (fun e1 => ite2 (fun z => nomatch z) fun _ => stay H6 (Keeps.refl a H6) p6)⟩
      have hr9 := of_decide_eq_true e1
      refine ⟨.int (many : Nat), rfl, (many : Nat), 1, rfl, rfl, _, rfl, ite2 (fun e2 => ?_) (fun e2 => ite2 (fun z => nomatch z) fun _ => stay H6 (Keeps.refl a H6) p6)⟩
      refine ⟨_, rfl, a, 3, rfl, p6, by decide, by decide, fun H7 d7 k7 p7 _ _ => ?_⟩
      refine ⟨rfl, _, rfl, ite2 (fun e3 => ?_) (fun e3 => stay H7 k7 p7)⟩
      refine ⟨_, rfl, _, rfl, _, rfl, a, many, r, rfl, p7, hm2, hm7, hr0, hr9, fun H8 p x' bs' st' goal' k8 p8 hW' h1 h2 h3 hp => ?_⟩
      exact ⟨p, _, rfl, SqT.of hp, rfl, _, _, rfl, _, _, rfl, _, _, rfl, rfl, (k06.trans k7).trans k8, p8, x', bs', st', goal', rfl, hW', h1, h2, h3⟩
    · rintro σ H7 ⟨k7, p7, x, bs, st, goal, rfl, hW, hst, hgo, hne⟩
      have hW0 := hW
      obtain ⟨⟨t, h1, h2⟩, h3, h4, h5⟩ := hW
      -- moments
      refine ⟨.ref x, rfl, x, _, 1, .ref t, rfl, rfl, SqT.of h1, rfl, t, rfl, ⟨_, SqT.of h2⟩, fun D hD => ?_⟩
      refine lc_tup (K := K) (a := t) (xs := refs bs) (fun i H' => Same H7 H' ∧ H' D = some (.lst (((dat bs).take i).map fun s => V.int s.1))) ⟨same_new hD, upd_same⟩ (fun i H' _ ⟨sm, _⟩ => SqT.of (sm _ _ h2)) ?_ ?_
      · rintro i y H8 hy ⟨sm, hd⟩
        obtain ⟨b, hb, rfl⟩ := refs_get hy
        have hbm := List.mem_of_getElem? hb
        have h3' := sm _ _ (h3 b hbm)
        refine ⟨rfl, .ref b.1, rfl, b.1, _, 0, .int b.2.1, rfl, rfl, SqT.of h3', rfl, _, hd, ?_, same_put sm hD, ?_⟩
        · rw [List.length_map, List.length_take, List.length_map]
          exact small1000 (by omega)
        · rw [upd_same, List.take_add_one, List.getElem?_map, hb, List.map_append]
          rfl
      · rintro H8 ⟨s8, D8⟩
        rw [refs_length, List.take_of_length_le (by rw [List.length_map]; exact Nat.le_refl _)] at D8
        refine ⟨(by show 1 ≤ sizeLine; decide), fun z nz => ?_⟩
        have s9 := same_new (o := .lst [V.int 0]) nz
        refine ⟨D, z, _, _, rfl, rfl, s9 _ _ D8, upd_same, by rw [List.length_map, List.length_map]; exact big (by show bs.length + 1 ≤ 1000; omega), fun m nm => ?_⟩
        have s10 := same_new (o := .lst (((dat bs).map fun s => V.int s.1) ++ [V.int 0])) nm
        have s710 := (s8.trans s9).trans s10
        obtain ⟨ns, hns⟩ : ∃ ns : List Int, ns = (dat bs).map (·.1) ++ [0] := ⟨_, rfl⟩
        have m10 : (upd (upd H8 z (.lst [V.int 0])) m (.lst (((dat bs).map fun s => V.int s.1) ++ [V.int 0]))) m = some (.lst (ns.map V.int)) := by
          rw [upd_same, hns, List.map_append]
          simp only [List.map_map]
          rfl
        have hnl : 0 < ns.length := by rw [hns, List.length_append]; show 0 < _ + 1; omega
        have hnl2 : ns.length ≤ 25 := by rw [hns, List.length_append, List.length_map, List.length_map]; show bs.length + 1 ≤ 25; omega
        have k10 : Keeps a H (upd (upd H8 z (.lst [V.int 0])) m (.lst (((dat bs).map fun s => V.int s.1) ++ [V.int 0]))) := k7.trans (Same.keeps s710)
        have p10 := p7.same s710
        have hW10 := hW0.same s710
        have ma : m ≠ a := ne_a ((p7.same s8).same s9) nm
        generalize (upd (upd H8 z (.lst [V.int 0])) m (.lst (((dat bs).map fun s => V.int s.1) ++ [V.int 0]))) = H10 at m10 k10 p10 hW10 ⊢
        -- first
        refine ⟨_, rfl, m, ns, rfl, SqL.of m10, hnl, fun mn _ _ => ?_⟩
        refine ⟨.ref m, rfl, .ref a, rfl, .ref m, rfl, m, _, rfl, .inl (SqL.of m10), a, _, rfl, p10, by rw [List.length_map]; omega, by rw [List.length_map]; omega, fun H11 d11 k11 p11 dd0 dd1 => ?_⟩
        rw [List.length_map] at dd1
        have m11 := k11 m _ ma m10
        obtain ⟨j, rfl⟩ : ∃ j : Nat, d11 = (j : Int) := ⟨d11.toNat, by omega⟩
        obtain ⟨mo, hmo⟩ : ∃ mo, ns[j]? = some mo := ⟨ns[j]'(by omega), List.getElem?_eq_getElem (by omega)⟩
        have hmo' : (ns.map V.int)[j]? = some (.int mo) := by rw [List.getElem?_map, hmo]; rfl
        refine ⟨m, _, (j : Nat), .int mo, rfl, rfl, SqL.of m11, atI_nat hmo', (by show 2 ≤ sizeLine; decide), fun l2 nl2 => ?_⟩
        have l2a := ne_a p11 nl2
        have s12 := same_new (o := .lst [V.int mn, .int mo]) nl2
        refine ⟨_, rfl, a, 2, rfl, p11.same s12, by decide, by decide, fun H13 d13 k13 p13 e0 e1 => ?_⟩
        have l13 := k13 l2 _ l2a upd_same
        obtain ⟨fi, hfi⟩ : ∃ fi : Int, atI [V.int mn, .int mo] d13 = some (.int fi) := by
          have : d13 = 0 ∨ d13 = 1 := by omega
          rcases this with rfl | rfl
          · exact ⟨_, rfl⟩
          · exact ⟨_, rfl⟩
        have k1013 := (k11.trans (Same.keeps s12)).trans k13
        refine ⟨l2, _, d13, .int fi, rfl, rfl, SqL.of l13, hfi, ?_⟩
        -- first + [..][..]
        refine ⟨.int fi, rfl, 1, rfl, 10, 29, rfl, rfl, ⟨by decide, by decide, by decide⟩, _, rfl, 10, 29, rfl, rfl, ⟨by decide, by decide, by decide⟩, (by show 7 ≤ sizeLine; decide), fun l3 nl3 => ?_⟩
        dsimp only
        have l3a := ne_a p13 nl3
        have s14 := same_new (o := .lst [V.int 0, .int 0, .int 1, .int (-1), .int 0, .int (-10 ^ Int.toNat 29), .int (10 ^ Int.toNat 29)]) nl3
        refine ⟨_, rfl, a, 7, rfl, p13.same s14, by decide, by decide, fun H15 d15 k15 p15 f0 f1 => ?_⟩
        have l15 := k15 l3 _ l3a upd_same
        obtain ⟨ad, had⟩ : ∃ ad : Int, atI [V.int 0, .int 0, .int 1, .int (-1), .int 0, .int (-10 ^ Int.toNat 29), .int (10 ^ Int.toNat 29)] d15 = some (.int ad) := by
          have : d15 = 0 ∨ d15 = 1 ∨ d15 = 2 ∨ d15 = 3 ∨ d15 = 4 ∨ d15 = 5 ∨ d15 = 6 := by omega
          rcases this with rfl | rfl | rfl | rfl | rfl | rfl | rfl <;> exact ⟨_, rfl⟩
        refine ⟨l3, _, d15, .int ad, rfl, rfl, SqL.of l15, had, fi, ad, rfl, rfl, ?_⟩
        have k1015 := (k1013.trans (Same.keeps s14)).trans k15
        obtain ⟨_, _, _, hy⟩ := p10
        have hW15 := hW10.keeps k1015 hy
        refine ⟨.ref x, rfl, .int r, rfl, .int (st : Nat), rfl, .int (goal : Nat), rfl, _, rfl, (by show 5 ≤ sizeLine; decide), fun p np => ?_⟩
        have s16 := same_new (o := .tup [V.ref x, .int r, .int (st : Nat), .int (goal : Nat), .int (fi + ad)]) np
        exact q _ p x bs many st goal r (fi + ad) ((k10.trans k1015).trans (Same.keeps s16)) (hW15.same s16) hm7 hst hgo hne hr0 upd_same
end
end WM

namespace WM
open PySem PySem.Spec PyProof.Rows L2
theorem scal_vO (o o' : Option Int) : scal (vO o) (vO o') = true := by
  cases o <;> cases o' <;> rfl
theorem head_vO {l : List (Int × Int)} : ((l.map fun p => V.int p.2) ++ [V.non])[0]? = some (vO (l.head?.map (·.2))) := by
  cases l with
  | nil => rfl
  | cons p l => rfl
theorem last_vO {l : List (Int × Int)} : atI ([V.non] ++ l.map fun p => V.int p.1) (-1) = some (vO (l.getLast?.map (·.1))) := by
  by_cases h : l = []
  · subst h
    exact atI_last [] V.non
  · have e := (List.dropLast_concat_getLast h).symm
    have e2 : [V.non] ++ (l.map fun p => V.int p.1) = ([V.non] ++ (l.dropLast.map fun p => V.int p.1)) ++ [V.int (l.getLast h).1] := by
      rw [List.append_assoc]
      congr 1
      refine Eq.trans (congrArg (List.map fun p : Int × Int => V.int p.1) e) ?_
      rw [List.map_append]
      rfl
    rw [e2, List.getLast?_eq_getLast h]
    exact atI_last _ _
theorem cut_ints (cs : List Int) (lo hi : Option Int) : ∃ zs : List Int, cutV (cs.map V.int) lo hi = zs.map V.int ∧ zs.length ≤ cs.length := by
  refine ⟨(cs.drop (HT.sIx (cs.map V.int).length 0 lo)).take (HT.sIx (cs.map V.int).length (cs.map V.int).length hi - HT.sIx (cs.map V.int).length 0 lo), ?_, ?_⟩
  · unfold cutV
    rw [List.map_take, List.map_drop]
  · rw [List.length_take, List.length_drop]
    omega
section
variable {P : Program} {w : World} {K : PySem.W.Frag} {mg : Str → Option Value} {base : Heap}
/-! ### _law_folded -/
theorem scFolded : FnScope ["script", "most", "cells", "k"] ["script", "most"] (defScope sFolded) := ⟨rfl, rfl, rfl, by decide +kernel, rfl, by decide +kernel, by decide +kernel⟩
def spFolded (K : PySem.W.Frag) : Sp := fun vs H Q _ => ∃ (a : Addr) (ns : List Int), vs = [.ref a, .int 8] ∧ SqL K H a (ns.map V.int) ∧ ns.length ≤ 63 ∧
  ∀ (H' : Hp) (p : Addr) (zs : List Int), Same H H' → H' p = some (.lst (zs.map V.int)) → zs.length ≤ 8 → Q (.ref p) H'
theorem ok_folded {f : Addr} {fd : FuncData} {k : Nat} (F : Fun K "_law_folded" "_law_folded" sFolded f fd) (mR : mg "range" = none) (mLen : mg "len" = none) (mMn : mg "min" = none) (mMx : mg "max" = none) : FnOk P w K mg base CX0 (k + 1) f fd ["script", "most"] (spFolded K) := by
  refine F.ok scFolded (fun vs H Q E h => ?_) (fun cdv A outer s H vs Q E hr h => ?_)
  · obtain ⟨a, ns, rfl, _⟩ := h
    rfl
  · obtain ⟨a, ns, rfl, hS, hlen, q⟩ := h
    refine ⟨_, pss_cons (ps_set (i := 2) scFolded.nd rfl (Or.inl rfl) (pe_op op_rep (pe_lst (pa_cons pe_int pa_nil)) (pv 1)))
      (pss_cons (ps_for PassesOwn.never rfl (pi_range1 (by rfl) mR (pa_cons (pe_callB call_len_seq (by rfl) mLen PySem.boot_len (pa_cons (pv 0) pa_nil)) pa_nil)) (pg_name (i := 3) scFolded.nd rfl (Or.inl rfl))
        (pss_one (ps_asg (pe_op op_add (pe_op op_mul (pe_op op_mod (pe_ix ix_list (pv 2) (pe_op op_mod (pv 3) (pv 1)) (fun _ _ => rfl)) (pe_op op_pow pe_int pe_int)) pe_int) (pe_ix ix_list (pv 0) (pv 3) (fun _ _ => rfl)))
          (pg_sub (pv 2) (pe_op op_mod (pv 3) (pv 1)) set_list))))
      (pss_one (ps_ret (pe_slice sl_list (pv 2) po_none (po_some (pe_callB (call_max2 rfl) (by rfl) mMx PyProof.Rows.boot_max (pa_cons pe_int (pa_cons
        (pe_callB (call_min2 rfl) (by rfl) mMn PyProof.Rows.boot_min (pa_cons (pe_callB call_len_seq (by rfl) mLen PySem.boot_len (pa_cons (pv 0) pa_nil)) (pa_cons (pv 1) pa_nil))) pa_nil)))))))), ?_⟩
    refine ⟨(by show 1 ≤ sizeLine; decide), fun l0 n0 => ?_⟩
    have s0 := same_new (o := .lst [V.int 0]) n0
    refine ⟨.int 8, rfl, l0, 8, _, rfl, rfl, upd_same, by decide, by decide, big (by decide), fun c nc => ?_⟩
    have nc0 : H c = none := Same.free s0 nc
    have s1 := s0.trans (same_new (o := .lst (List.replicate (8 : Int).toNat [V.int 0]).flatten) nc)
    have c1 : (upd (upd H l0 (.lst [V.int 0])) c (.lst (List.replicate (8 : Int).toNat [V.int 0]).flatten)) c = some (.lst (([0, 0, 0, 0, 0, 0, 0, 0] : List Int).map V.int)) := by
      rw [upd_same]
      rfl
    generalize (upd (upd H l0 (.lst [V.int 0])) c (.lst (List.replicate (8 : Int).toNat [V.int 0]).flatten)) = H1 at s1 c1 ⊢
    refine ⟨.ref a, rfl, a, _, rfl, .inl (s1.seq hS), ns.length, by rw [List.length_map], by omega, by omega, ?_⟩
    refine for_range (lo := 0) (n := ((ns.length : Nat) : Int).toNat) (fun i σ H' => Same H H' ∧ ∃ (y3 : Option V) (cs : List Int), σ = [some (.ref a), some (.int 8), some (.ref c), y3] ∧ H' c = some (.lst (cs.map V.int)) ∧ cs.length = 8)
      ⟨s1, none, _, rfl, c1, rfl⟩ ?_ ?_
    · rintro i σ H2 hi ⟨s2, y3, cs, rfl, c2, l2⟩
      have hi' : i < ns.length := by omega
      have hS2 := s2.seq hS
      obtain ⟨j, hj, hj8⟩ : ∃ j : Nat, (0 + (i : Int)) % 8 = (j : Int) ∧ j < 8 := ⟨((0 + (i : Int)) % 8).toNat, by omega, by omega⟩
      have gc : (cs.map V.int)[j]? = some (.int (cs[j]'(by omega))) := by rw [List.getElem?_map, List.getElem?_eq_getElem (by omega)]; rfl
      have gs : (ns.map V.int)[i]? = some (.int ns[i]) := by rw [List.getElem?_map, List.getElem?_eq_getElem hi']; rfl
      refine ⟨.ref c, rfl, .int (0 + (i : Nat)), rfl, .int 8, rfl, 0 + (i : Nat), 8, rfl, rfl, (by show (0 : Int) < 8; decide), c, _, (0 + (i : Int)) % 8, _, rfl, rfl, SqL.of c2, at_of hj gc, 10, 60, rfl, rfl, ⟨by decide, by decide, by decide⟩, _, _, rfl, rfl, (by show (0 : Int) < 10 ^ (60 : Nat); decide),
        _, 1000003, rfl, rfl, .inr ⟨by decide, by decide⟩, .ref a, rfl, .int (0 + (i : Nat)), rfl, a, _, 0 + (i : Nat), _, rfl, rfl, hS2, at_of (j := i) (by omega) gs, _, _, rfl, rfl,
        .ref c, rfl, .int (0 + (i : Nat)), rfl, .int 8, rfl, 0 + (i : Nat), 8, rfl, rfl, (by show (0 : Int) < 8; decide), c, _, (0 + (i : Int)) % 8, j, rfl, rfl, c2, by rw [hj]; exact ixN_nat (by rw [List.length_map]; omega), ?_⟩
      refine ⟨same_put s2 nc0, _, cs.set j _, rfl, by rw [upd_same, List.map_set], by rw [List.length_set]; exact l2⟩
    · rintro σ H2 ⟨s2, y3, cs, rfl, c2, l2⟩
      have hS2 := s2.seq hS
      refine ⟨.ref c, rfl, .ref a, rfl, a, _, rfl, .inl hS2, _, rfl, _, _, rfl, 1, _, rfl, _, rfl, c, _, rfl, SqL.of c2, fun p np => ?_⟩
      have key : ∀ lo hi : Option Int, Q (.ref p) (upd H2 p (.lst (cutV (cs.map V.int) lo hi))) := fun lo hi => by
        obtain ⟨zs, e, hl⟩ := cut_ints cs lo hi
        exact q _ p zs (s2.trans (same_new np)) (by rw [upd_same, e]) (by omega)
      exact key _ _
/-! ### _law_right -/
abbrev nRight : List Str := ["web", "rest", "start", "goal", "pairs", "moment", "later", "sooner", "leaves", "comes"]
theorem scRight : FnScope nRight ["web", "rest", "start", "goal", "pairs", "moment"] (defScope sRight) := ⟨rfl, rfl, rfl, by decide +kernel, rfl, by decide +kernel, by decide +kernel⟩
def spRight : Sp := fun vs H Q _ => ∃ (a pA : Addr) (many : Nat) (bs : List (Addr × Stp)) (r moment : Int) (st goal : Nat) (ps : List (Addr × (Int × Int))), vs = [.ref a, .int r, .int (st : Nat), .int (goal : Nat), .ref pA, .int moment] ∧ WebAt H a many bs ∧ st < many ∧ goal < many ∧ goal ≠ st ∧ many ≤ 7 ∧ 0 ≤ r ∧
  H pA = some (.lst (refs ps)) ∧ At2 H ps ∧ Best (dat bs) r st goal (dat ps) ∧ ps.length ≤ 24 ∧ ∀ H' : Hp, Same H H' → Q (.bl true) H'
theorem ok_right {f fF fL : Addr} {fd fdF fdL : FuncData} (F : Fun K "_law_right" "_law_right" sRight f fd)
    (FF : Fun K "soonest_from" "soonest_from" sFrom fF fdF) (bF : Binds K fdF ["web", "rest", "start", "first"] []) (gF : mg "soonest_from" = some (.ref fF)) (GF : FnOk P w K mg base CX0 3 fF fdF ["web", "rest", "start", "first"] spFrom)
    (FL : Fun K "latest_to" "latest_to" sLatest fL fdL) (bL : Binds K fdL ["web", "rest", "goal", "last"] []) (gL : mg "latest_to" = some (.ref fL)) (GL : FnOk P w K mg base CX0 4 fL fdL ["web", "rest", "goal", "last"] spLatest) :
    FnOk P w K mg base CX0 5 f fd ["web", "rest", "start", "goal", "pairs", "moment"] spRight := by
  refine F.ok scRight (fun vs H Q E h => ?_) (fun cdv A outer s H vs Q E hr h => ?_)
  · obtain ⟨a, pA, many, bs, r, moment, st, goal, ps, rfl, _⟩ := h
    rfl
  · obtain ⟨a, pA, many, bs, r, x, st, goal, ps, rfl, hW, hst, hgo, hne, h7, hr0, hpA, h2, hB, hl24, q⟩ := h
    refine ⟨_, pss_cons (ps_set (i := 6) scRight.nd rfl (Or.inl rfl) (pe_op op_cat
        (pe_lc (own := [("leaves", 8), ("comes", 9)]) (g := gTup K 2 (gCons (gName 8) (gCons (gName 9) gNil))) rfl scRight.nd (pi_list (pv 4)) (blkOk_by (N := nRight) (sc := defScope sRight) (by decide +kernel))
          (fun _ _ _ _ _ => pg_tup rfl (pgs_cons (pg_name (i := 8) scRight.nd rfl (Or.inl rfl)) (pgs_cons (pg_name (i := 9) scRight.nd rfl (Or.inl rfl)) pgs_nil)))
          (fun _ _ _ _ _ => pts_one (pt_cmpR op_ge (pv 8) (pv 5) (nomark _))) (fun _ _ _ _ _ => pv 9))
        (pe_lst (pa_cons pe_non pa_nil))))
      (pss_cons (ps_set (i := 7) scRight.nd rfl (Or.inl rfl) (pe_op op_cat (pe_lst (pa_cons pe_non pa_nil))
        (pe_lc (own := [("leaves", 8), ("comes", 9)]) (g := gTup K 2 (gCons (gName 8) (gCons (gName 9) gNil))) rfl scRight.nd (pi_list (pv 4)) (blkOk_by (N := nRight) (sc := defScope sRight) (by decide +kernel))
          (fun _ _ _ _ _ => pg_tup rfl (pgs_cons (pg_name (i := 8) scRight.nd rfl (Or.inl rfl)) (pgs_cons (pg_name (i := 9) scRight.nd rfl (Or.inl rfl)) pgs_nil)))
          (fun _ _ _ _ _ => pts_one (pt_cmpR op_le (pv 9) (pv 5) (nomark _))) (fun _ _ _ _ _ => pv 8))))
      (pss_cons (ps_if (pt_cmpR op_ne (pe_ix ix_list (pe_call GF (hr.mono (by decide)) (by rfl) gF FF.kp bF .nil pass0 (pa_cons (pv 0) (pa_cons (pv 1) (pa_cons (pv 2) (pa_cons (pv 5) pa_nil))))) (pv 3) (fun _ _ => rfl)) (pe_ix ix_list (pv 6) pe_int (fun _ _ => rfl)) (nomark _))
        (pss_one (ps_ret pe_bl)) pss_nil)
      (pss_one (ps_ret (pe_cmpR op_eq (pe_ix ix_list (pe_call GL hr (by rfl) gL FL.kp bL .nil pass0 (pa_cons (pv 0) (pa_cons (pv 1) (pa_cons (pv 3) (pa_cons (pv 5) pa_nil))))) (pv 2) (fun _ _ => rfl)) (pe_ix ix_list (pv 7) (pe_un un_neg pe_int) (fun _ _ => rfl)) (nomark _)))))), ?_⟩
    -- later
    refine ⟨.ref pA, rfl, pA, rfl, ⟨_, SqL.of hpA⟩, fun D hD => ?_⟩
    refine lc_list (K := K) (a := pA) (xs := refs ps) (fun i H' => Same H H' ∧ H' D = some (.lst ((((dat ps).take i).filter fun p => decide (x ≤ p.1)).map fun p => V.int p.2))) ⟨same_new hD, upd_same⟩ (fun i H' _ ⟨sm, _⟩ => SqL.of (sm _ _ hpA)) ?_ ?_
    · rintro i y H1 hy ⟨sm, hd⟩
      obtain ⟨b, hb, rfl⟩ := refs_get hy
      have hb1 := sm _ _ (h2 b (List.mem_of_getElem? hb))
      have et : (dat ps).take (i + 1) = (dat ps).take i ++ [b.2] := by rw [List.take_add_one, List.getElem?_map, hb]; rfl
      refine ⟨b.1, _, rfl, SqT.of hb1, rfl, _, _, rfl, _, _, rfl, rfl, rfl, ?_⟩
      refine ⟨.int b.2.1, rfl, .int x, rfl, b.2.1, x, rfl, rfl, _, rfl, ite2 (fun e => ?_) (fun e => ?_)⟩
      · refine ⟨.int b.2.2, rfl, _, hd, ?_, same_put sm hD, ?_⟩
        · rw [List.length_map]
          refine small1000 (Nat.le_trans (List.length_filter_le _ _) ?_)
          rw [List.length_take, List.length_map]
          omega
        · rw [upd_same, et, List.filter_append, List.filter_cons_of_pos (by simpa using e), List.map_append]
          rfl
      · refine ⟨sm, ?_⟩
        rw [et, List.filter_append, List.filter_cons_of_neg (by simpa using e), List.filter_nil, List.append_nil]
        exact hd
    · rintro H1 ⟨s1, D1⟩
      rw [refs_length, List.take_of_length_le (by rw [List.length_map]; exact Nat.le_refl _)] at D1
      refine ⟨(by show 1 ≤ sizeLine; decide), fun z nz => ?_⟩
      have s2 := same_new (o := .lst [V.non]) nz
      have hfl : ((dat ps).filter fun p => decide (x ≤ p.1)).length ≤ 24 := Nat.le_trans (List.length_filter_le _ _) (by rw [List.length_map]; exact hl24)
      refine ⟨D, z, _, _, rfl, rfl, s2 _ _ D1, upd_same, by rw [List.length_map]; exact big (by show _ + 1 ≤ 1000; omega), fun la nla => ?_⟩
      have s3 := same_new (o := .lst ((((dat ps).filter fun p => decide (x ≤ p.1)).map fun p => V.int p.2) ++ [V.non])) nla
      have sA := (s1.trans s2).trans s3
      have laA : (upd (upd H1 z (.lst [V.non])) la (.lst ((((dat ps).filter fun p => decide (x ≤ p.1)).map fun p => V.int p.2) ++ [V.non]))) la = some (.lst ((((dat ps).filter fun p => decide (x ≤ p.1)).map fun p => V.int p.2) ++ [V.non])) := upd_same
      generalize (upd (upd H1 z (.lst [V.non])) la (.lst ((((dat ps).filter fun p => decide (x ≤ p.1)).map fun p => V.int p.2) ++ [V.non]))) = HA at sA laA ⊢
      -- sooner
      refine ⟨(by show 1 ≤ sizeLine; decide), fun z2 nz2 => ?_⟩
      have s4 := same_new (o := .lst [V.non]) nz2
      have z24 : (upd HA z2 (.lst [V.non])) z2 = some (.lst [V.non]) := upd_same
      have sB := sA.trans s4
      have laB := s4 _ _ laA
      generalize (upd HA z2 (.lst [V.non])) = HB at s4 z24 sB laB ⊢
      refine ⟨.ref pA, rfl, pA, rfl, ⟨_, SqL.of (sB _ _ hpA)⟩, fun D2 hD2 => ?_⟩
      refine lc_list (K := K) (a := pA) (xs := refs ps) (fun i H' => Same HB H' ∧ H' D2 = some (.lst ((((dat ps).take i).filter fun p => decide (p.2 ≤ x)).map fun p => V.int p.1))) ⟨same_new hD2, upd_same⟩ (fun i H' _ ⟨sm, _⟩ => SqL.of (sm _ _ (sB _ _ hpA))) ?_ ?_
      · rintro i y H1 hy ⟨sm, hd⟩
        obtain ⟨b, hb, rfl⟩ := refs_get hy
        have hb1 := sm _ _ (sB _ _ (h2 b (List.mem_of_getElem? hb)))
        have et : (dat ps).take (i + 1) = (dat ps).take i ++ [b.2] := by rw [List.take_add_one, List.getElem?_map, hb]; rfl
        refine ⟨b.1, _, rfl, SqT.of hb1, rfl, _, _, rfl, _, _, rfl, rfl, rfl, ?_⟩
        refine ⟨.int b.2.2, rfl, .int x, rfl, b.2.2, x, rfl, rfl, _, rfl, ite2 (fun e => ?_) (fun e => ?_)⟩
        · refine ⟨.int b.2.1, rfl, _, hd, ?_, same_put sm hD2, ?_⟩
          · rw [List.length_map]
            refine small1000 (Nat.le_trans (List.length_filter_le _ _) ?_)
            rw [List.length_take, List.length_map]
            omega
          · rw [upd_same, et, List.filter_append, List.filter_cons_of_pos (by simpa using e), List.map_append]
            rfl
        · refine ⟨sm, ?_⟩
          rw [et, List.filter_append, List.filter_cons_of_neg (by simpa using e), List.filter_nil, List.append_nil]
          exact hd
      · rintro H2 ⟨s5, D2e⟩
        rw [refs_length, List.take_of_length_le (by rw [List.length_map]; exact Nat.le_refl _)] at D2e
        have hfl2 : ((dat ps).filter fun p => decide (p.2 ≤ x)).length ≤ 24 := Nat.le_trans (List.length_filter_le _ _) (by rw [List.length_map]; exact hl24)
        refine ⟨z2, D2, _, _, rfl, rfl, s5 _ _ z24, D2e, by rw [List.length_map]; exact big (by show 1 + _ ≤ 1000; omega), fun so nso => ?_⟩
        have s6 := same_new (o := .lst ([V.non] ++ ((dat ps).filter fun p => decide (p.2 ≤ x)).map fun p => V.int p.1)) nso
        have sC := (sB.trans s5).trans s6
        have laC := s6 _ _ (s5 _ _ laB)
        have soC : (upd H2 so (.lst ([V.non] ++ ((dat ps).filter fun p => decide (p.2 ≤ x)).map fun p => V.int p.1))) so = some (.lst ([V.non] ++ ((dat ps).filter fun p => decide (p.2 ≤ x)).map fun p => V.int p.1)) := upd_same
        generalize (upd H2 so (.lst ([V.non] ++ ((dat ps).filter fun p => decide (p.2 ≤ x)).map fun p => V.int p.1))) = HC at sC laC soC ⊢
        -- the soonest coming
        refine ⟨_, rfl, _, rfl, _, rfl, _, rfl, a, many, bs, r, x, st, rfl, hW.same sC, hst, h7, hr0, fun H3 cA cl s7 hcl hG => ?_⟩
        obtain ⟨v, hv, hk⟩ := cl_get (cl := cl) (v := goal) (by rw [hG.len]; exact hgo)
        have hs := hG.soon goal hne
        rw [hk] at hs
        have ev : v = (((dat ps).filter fun p => decide (x ≤ p.1)).head?.map (·.2)) := hs.inj (hB.soon x)
        refine ⟨_, rfl, cA, _, (goal : Nat), vO v, rfl, rfl, SqL.of hcl, atI_nat hv, .ref la, rfl, la, _, 0, vO v, rfl, rfl, SqL.of (s7 _ _ laC), atI_nat (j := 0) (by rw [ev]; exact head_vO), scal_vO _ _, _, rfl, iteNS rfl ?_⟩
        -- the latest leaving
        refine ⟨_, rfl, _, rfl, _, rfl, _, rfl, a, many, bs, r, x, goal, rfl, hW.same (sC.trans s7), hgo, h7, hr0, fun H4 lA cl2 ms' s8 hl8 hT hG2 => ?_⟩
        obtain ⟨v2, hv2, hk2⟩ := cl_get (cl := cl2) (v := st) (by rw [hG2.len]; exact hst)
        have hs2 := hG2.soon st (Ne.symm hne)
        rw [hk2] at hs2
        have ev2 : v2 = (((dat ps).filter fun p => decide (p.2 ≤ x)).getLast?.map (·.1)).map fun l => -l := hs2.inj (hB.late hT x)
        have ev3 : ngO v2 = (((dat ps).filter fun p => decide (p.2 ≤ x)).getLast?.map (·.1)) := by
          rw [ev2]
          cases ((dat ps).filter fun p => decide (p.2 ≤ x)).getLast? with
          | none => rfl
          | some z => show some (- -z.1) = some z.1; rw [Int.neg_neg]
        have hv3 : ((cl2.map ngO).map vO)[st]? = some (vO (ngO v2)) := by
          have hlt : st < cl2.length := by rw [hG2.len]; exact hst
          have : cl2[st]? = some v2 := by
            have hk3 := hk2
            unfold clk at hk3
            rw [List.getElem?_eq_getElem hlt] at hk3 ⊢
            exact congrArg some hk3
          rw [List.getElem?_map, List.getElem?_map, this]
          rfl
        refine ⟨_, rfl, lA, _, (st : Nat), _, rfl, rfl, SqL.of hl8, atI_nat hv3, .ref so, rfl, 1, rfl, so, _, -1, vO (ngO v2), rfl, rfl, SqL.of (s8 _ _ (s7 _ _ soC)), by rw [ev3]; exact last_vO, scal_vO _ _, ?_⟩
        rw [decide_eq_true (rfl : vO (ngO v2) = vO (ngO v2))]
        exact q _ ((sC.trans s7).trans s8)
/-! ### the law -/
abbrev nLaw : List Str := ["script", "cell", "web", "rest", "start", "goal", "first", "pairs", "moments", "leaves", "comes", "moment"]
theorem scLaw : FnScope nLaw ["script"] (defScope sLaw) := ⟨rfl, rfl, rfl, by decide +kernel, rfl, by decide +kernel, by decide +kernel⟩
def spLaw (K : PySem.W.Frag) : Sp := fun vs H Q _ => ∃ (a : Addr) (ns : List Int), vs = [.ref a] ∧ SqL K H a (ns.map V.int) ∧ ns.length ≤ 63 ∧ ∀ H' : Hp, Q (.bl true) H'
theorem ok_law {f fO fP fC fB fR : Addr} {fd fdO fdP fdC fdB fdR : FuncData} (F : Fun K "law" "law" sLaw f fd)
    (FO : Fun K "_law_folded" "_law_folded" sFolded fO fdO) (bO : Binds K fdO ["script", "most"] []) (gO : mg "_law_folded" = some (.ref fO)) (GO : FnOk P w K mg base CX0 1 fO fdO ["script", "most"] (spFolded K))
    (FP : Fun K "_law_pool" "_law_pool" sPool fP fdP) (bP : Binds K fdP ["cell"] []) (gP : mg "_law_pool" = some (.ref fP)) (GP : FnOk P w K mg base CX0 1 fP fdP ["cell"] spPool)
    (FC : Fun K "_law_scene" "_law_scene" sScene fC fdC) (bC : Binds K fdC ["pool", "least"] []) (gC : mg "_law_scene" = some (.ref fC)) (GC : FnOk P w K mg base CX0 4 fC fdC ["pool", "least"] spScene)
    (FB : Fun K "best_pairs" "best_pairs" sBest fB fdB) (bB : Binds K fdB ["web", "rest", "start", "goal"] []) (gB : mg "best_pairs" = some (.ref fB)) (GB : FnOk P w K mg base CX0 4 fB fdB ["web", "rest", "start", "goal"] spBest)
    (FR : Fun K "_law_right" "_law_right" sRight fR fdR) (bR : Binds K fdR ["web", "rest", "start", "goal", "pairs", "moment"] []) (gR : mg "_law_right" = some (.ref fR)) (GR : FnOk P w K mg base CX0 5 fR fdR ["web", "rest", "start", "goal", "pairs", "moment"] spRight) :
    FnOk P w K mg base CX0 6 f fd ["script"] (spLaw K) := by
  refine F.ok scLaw (fun vs H Q E h => ?_) (fun cdv A outer s H vs Q E hr h => ?_)
  · obtain ⟨a, ns, rfl, _⟩ := h
    rfl
  · obtain ⟨a, ns, rfl, hS, hlen, q⟩ := h
    have hr1 := hr.mono (j := 1) (by decide)
    have hr4 := hr.mono (j := 4) (by decide)
    refine ⟨_, pss_cons (ps_for PassesOwn.never rfl (pi_list (pe_call GO hr1 (by rfl) gO FO.kp bO .nil pass0 (pa_cons (pv 0) (pa_cons pe_int pa_nil)))) (pg_name (i := 1) scLaw.nd rfl (Or.inl rfl))
        (pss_cons (ps_asg (pe_call GC hr4 (by rfl) gC FC.kp bC .nil pass0 (pa_cons (pe_call GP hr1 (by rfl) gP FP.kp bP .nil pass0 (pa_cons (pv 1) pa_nil)) (pa_cons pe_int pa_nil)))
          (pg_tup rfl (pgs_cons (pg_name (i := 2) scLaw.nd rfl (Or.inl rfl)) (pgs_cons (pg_name (i := 3) scLaw.nd rfl (Or.inl rfl)) (pgs_cons (pg_name (i := 4) scLaw.nd rfl (Or.inl rfl)) (pgs_cons (pg_name (i := 5) scLaw.nd rfl (Or.inl rfl)) (pgs_cons (pg_name (i := 6) scLaw.nd rfl (Or.inl rfl)) pgs_nil)))))))
        (pss_cons (ps_set (i := 7) scLaw.nd rfl (Or.inl rfl) (pe_call GB hr4 (by rfl) gB FB.kp bB .nil pass0 (pa_cons (pv 2) (pa_cons (pv 3) (pa_cons (pv 4) (pa_cons (pv 5) pa_nil))))))
        (pss_cons (ps_set (i := 8) scLaw.nd rfl (Or.inl rfl) (pe_lst (pa_cons (pv 6) pa_nil)))
        (pss_cons (ps_for PassesOwn.never rfl (pi_list (pv 7)) (pg_tup rfl (pgs_cons (pg_name (i := 9) scLaw.nd rfl (Or.inl rfl)) (pgs_cons (pg_name (i := 10) scLaw.nd rfl (Or.inl rfl)) pgs_nil)))
          (pss_one (ps_expr (pe_bm PySem.F.plainAttrs_list PySem.F.slot_list_extend PySem.F.type_list_extend mt_extend (pv 8) (pa_cons
            (pe_lst (pa_cons (pv 9) (pa_cons (pe_op op_add (pv 9) pe_int) (pa_cons (pe_op op_sub (pv 9) pe_int) (pa_cons (pv 10) (pa_cons (pe_op op_add (pv 10) pe_int) (pa_cons (pe_op op_sub (pv 10) pe_int) pa_nil))))))) pa_nil)))))
        (pss_one (ps_for PassesOwn.never rfl (pi_list (pv 8)) (pg_name (i := 11) scLaw.nd rfl (Or.inl rfl))
          (pss_one (ps_if (pt_not (pt_val (pe_call GR hr (by rfl) gR FR.kp bR .nil pass0 (pa_cons (pv 2) (pa_cons (pv 3) (pa_cons (pv 4) (pa_cons (pv 5) (pa_cons (pv 7) (pa_cons (pv 11) pa_nil)))))))))
            (pss_one (ps_ret pe_bl)) pss_nil)))))))))
      (pss_one (ps_ret pe_bl)), ?_⟩
    refine ⟨_, rfl, a, ns, rfl, hS, hlen, fun H0 c zs s0 hc hz => ?_⟩
    refine ⟨c, rfl, ⟨_, SqL.of hc⟩, for_list (K := K) (a := c) (xs := zs.map V.int) (fun i σ H' => Same H0 H' ∧ ∃ y1 y2 y3 y4 y5 y6 y7 y8 y9 y10 y11 : Option V, σ = [some (.ref a), y1, y2, y3, y4, y5, y6, y7, y8, y9, y10, y11])
      ⟨Same.refl H0, none, none, none, none, none, none, none, none, none, none, none, rfl⟩ (fun i σ H' _ ⟨sm, _⟩ => SqL.of (sm _ _ hc)) ?_ (fun σ H' _ => q H')⟩
    rintro i x σ H1 hx ⟨s1, y1, y2, y3, y4, y5, y6, y7, y8, y9, y10, y11, rfl⟩
    obtain ⟨cell, hcell, rfl⟩ := ints_get hx
    -- the scene
    refine ⟨_, rfl, cell, rfl, fun H2 p s2 np hp => ?_⟩
    refine ⟨p, rfl, hp, fun H3 t x bs many st goal r first k3 hW h7 hst hgo hne hr0 ht => ?_⟩
    have s13 : Same H1 H3 := fun b o e => k3 b o (ne_of_none e np) (s2 b o e)
    have s03 := s1.trans s13
    refine ⟨t, _, rfl, SqT.of ht, rfl, _, _, rfl, _, _, rfl, _, _, rfl, _, _, rfl, _, _, rfl, rfl, ?_⟩
    -- the pairs
    refine ⟨_, rfl, _, rfl, _, rfl, _, rfl, x, many, bs, r, st, goal, rfl, hW, hst, hgo, hne, h7, hr0, fun H4 pA ps s4 hpA h2 hB hl => ?_⟩
    have s04 := s03.trans s4
    have hW4 := hW.same s4
    -- the moments
    refine ⟨_, rfl, (by show 1 ≤ sizeLine; decide), fun m nm => ?_⟩
    have s5 := same_new (o := .lst [V.int first]) nm
    have m5 : (upd H4 m (.lst [V.int first])) m = some (.lst (([first] : List Int).map V.int)) := upd_same
    generalize (upd H4 m (.lst [V.int first])) = H5 at s5 m5 ⊢
    refine ⟨.ref pA, rfl, pA, rfl, ⟨_, SqL.of (s5 _ _ hpA)⟩, for_list (K := K) (a := pA) (xs := refs ps) (fun j σ H' => Same H4 H' ∧ ∃ (y9 y10 y11 : Option V) (mo : List Int),
        σ = [some (.ref a), some (.int cell), some (.ref x), some (.int r), some (.int (st : Nat)), some (.int (goal : Nat)), some (.int first), some (.ref pA), some (.ref m), y9, y10, y11] ∧ H' m = some (.lst (mo.map V.int)) ∧ mo.length ≤ 1 + 6 * j)
      ⟨s5, y9, y10, y11, [first], rfl, m5, by show 1 ≤ 1 + 6 * 0; omega⟩ (fun j σ H' _ ⟨sm, _⟩ => SqL.of (sm _ _ hpA)) ?_ ?_⟩
    · rintro j y σ H6 hy ⟨s6, y9, y10, y11, mo, rfl, m6, l6⟩
      obtain ⟨b, hb, rfl⟩ := refs_get hy
      have hb6 := s6 _ _ (h2 b (List.mem_of_getElem? hb))
      have hj : j < 24 := by
        obtain ⟨hj, _⟩ := List.getElem?_eq_some_iff.mp hb
        omega
      refine ⟨b.1, _, rfl, SqT.of hb6, rfl, _, _, rfl, _, _, rfl, rfl, ?_⟩
      refine ⟨.ref m, rfl, .inl ⟨rfl, _, .inl (.inl m6)⟩, .int b.2.1, rfl, .int b.2.1, rfl, b.2.1, 1, rfl, rfl, .int b.2.1, rfl, b.2.1, 1, rfl, rfl, .int b.2.2, rfl, .int b.2.2, rfl, b.2.2, 1, rfl, rfl, .int b.2.2, rfl, b.2.2, 1, rfl, rfl, (by show 6 ≤ sizeLine; decide), fun e ne => ?_⟩
      have em : e ≠ m := fun z => by rw [z, m6] at ne; cases ne
      refine ⟨m, e, mo.map V.int, _, rfl, rfl, at_new m6 ne, upd_same, by rw [List.length_map]; exact big (by show mo.length + 6 ≤ 1000; omega), ?_⟩
      refine ⟨same_put (s6.trans (same_new ne)) nm, _, _, _, mo ++ [b.2.1, b.2.1 + 1, b.2.1 - 1, b.2.2, b.2.2 + 1, b.2.2 - 1], rfl, ?_, ?_⟩
      · rw [upd_same, List.map_append]
        rfl
      · rw [List.length_append]
        show mo.length + 6 ≤ _
        omega
    · rintro σ H6 ⟨s6, y9, y10, y11, mo, rfl, m6, l6⟩
      refine ⟨.ref m, rfl, m, rfl, ⟨_, SqL.of m6⟩, for_list (K := K) (a := m) (xs := mo.map V.int) (fun j σ H' => Same H6 H' ∧ ∃ y11 : Option V,
          σ = [some (.ref a), some (.int cell), some (.ref x), some (.int r), some (.int (st : Nat)), some (.int (goal : Nat)), some (.int first), some (.ref pA), some (.ref m), y9, y10, y11])
        ⟨Same.refl H6, y11, rfl⟩ (fun j σ H' _ ⟨sm, _⟩ => SqL.of (sm _ _ m6)) ?_ ?_⟩
      · rintro j y σ H7 hy ⟨s7, y11, rfl⟩
        obtain ⟨mm, _, rfl⟩ := ints_get hy
        have s47 := s6.trans s7
        refine ⟨_, rfl, _, rfl, _, rfl, _, rfl, _, rfl, _, rfl, x, pA, many, bs, r, mm, st, goal, ps, rfl, hW4.same s47, hst, hgo, hne, h7, hr0, s47 _ _ hpA, h2.same s47, hB, hl, fun H8 s8 => ?_⟩
        exact ⟨true, rfl, iteF ⟨s7.trans s8, _, rfl⟩⟩
      · rintro σ H7 ⟨s7, y11, rfl⟩
        exact ⟨(s04.trans s6).trans s7, _, _, _, _, _, _, _, _, _, _, _, rfl⟩
end
end WM

/-! what the top has left; the end -/
namespace WM
open PySem PySem.Spec PyProof.Rows L2
theorem all_mk {l : PySem.W.OpenLaw} {w : World} {K : PySem.W.Frag} {h : Heap} {mg : Str → Option Value} {fa f0 f1 f2 f3 f4 f5 f6 f7 f8 f9 f10 f11 f12 f13 f14 f15 f16 f17 f18 f19 : Addr} (X : K.In h) (G : h.Ns mainGlobals mg) (hfa : mg "law" = some (.ref fa))
    {od0 an0 : Option Addr} {sl0 : Array (Option Value)} {oc0 kV0 dc0 pm0 cd0 ct0 : Value}
    {od1 an1 : Option Addr} {sl1 : Array (Option Value)} {oc1 kV1 dc1 pm1 cd1 ct1 : Value}
    {od2 an2 : Option Addr} {sl2 : Array (Option Value)} {oc2 kV2 dc2 pm2 cd2 ct2 : Value}
    {od3 an3 : Option Addr} {sl3 : Array (Option Value)} {oc3 kV3 dc3 pm3 cd3 ct3 : Value}
    {od4 an4 : Option Addr} {sl4 : Array (Option Value)} {oc4 kV4 dc4 pm4 cd4 ct4 : Value}
    {od5 an5 : Option Addr} {sl5 : Array (Option Value)} {oc5 kV5 dc5 pm5 cd5 ct5 : Value}
    {od6 an6 : Option Addr} {sl6 : Array (Option Value)} {oc6 kV6 dc6 pm6 cd6 ct6 : Value}
    {od7 an7 : Option Addr} {sl7 : Array (Option Value)} {oc7 kV7 dc7 pm7 cd7 ct7 : Value}
    {od8 an8 : Option Addr} {sl8 : Array (Option Value)} {oc8 kV8 dc8 pm8 cd8 ct8 : Value}
    {od9 an9 : Option Addr} {sl9 : Array (Option Value)} {oc9 kV9 dc9 pm9 cd9 ct9 : Value}
    {od10 an10 : Option Addr} {sl10 : Array (Option Value)} {oc10 kV10 dc10 pm10 cd10 ct10 : Value}
    {od11 an11 : Option Addr} {sl11 : Array (Option Value)} {oc11 kV11 dc11 pm11 cd11 ct11 : Value}
    {od12 an12 : Option Addr} {sl12 : Array (Option Value)} {oc12 kV12 dc12 pm12 cd12 ct12 : Value}
    {od13 an13 : Option Addr} {sl13 : Array (Option Value)} {oc13 kV13 dc13 pm13 cd13 ct13 : Value}
    {od14 an14 : Option Addr} {sl14 : Array (Option Value)} {oc14 kV14 dc14 pm14 cd14 ct14 : Value}
    {od15 an15 : Option Addr} {sl15 : Array (Option Value)} {oc15 kV15 dc15 pm15 cd15 ct15 : Value}
    {od16 an16 : Option Addr} {sl16 : Array (Option Value)} {oc16 kV16 dc16 pm16 cd16 ct16 : Value}
    {od17 an17 : Option Addr} {sl17 : Array (Option Value)} {oc17 kV17 dc17 pm17 cd17 ct17 : Value}
    {od18 an18 : Option Addr} {sl18 : Array (Option Value)} {oc18 kV18 dc18 pm18 cd18 ct18 : Value}
    {od19 an19 : Option Addr} {sl19 : Array (Option Value)} {oc19 kV19 dc19 pm19 cd19 ct19 : Value}
    (a0 : PySem.W.nsIn K mainGlobals "moments_of" = some (some (.ref f0))) (l0 : K.lookup f0 = some ⟨oc0, od0, .func (PySem.W.fnOf "moments_of" "moments_of" (defArgs sMoments) (defBody sMoments) (defScope sMoments) .none kV0 dc0 pm0 an0 cd0 ct0), sl0⟩) (c0 : PySem.W.codeIn K cd0 "moments_of" = true) (k0 : PySem.W.keepIn K (.ref f0) = true)
    (a1 : PySem.W.nsIn K mainGlobals "turned_web" = some (some (.ref f1))) (l1 : K.lookup f1 = some ⟨oc1, od1, .func (PySem.W.fnOf "turned_web" "turned_web" (defArgs sTurned) (defBody sTurned) (defScope sTurned) .none kV1 dc1 pm1 an1 cd1 ct1), sl1⟩) (c1 : PySem.W.codeIn K cd1 "turned_web" = true) (k1 : PySem.W.keepIn K (.ref f1) = true)
    (a2 : PySem.W.nsIn K mainGlobals "steps_of" = some (some (.ref f2))) (l2 : K.lookup f2 = some ⟨oc2, od2, .func (PySem.W.fnOf "steps_of" "steps_of" (defArgs sSteps) (defBody sSteps) (defScope sSteps) .none kV2 dc2 pm2 an2 cd2 ct2), sl2⟩) (c2 : PySem.W.codeIn K cd2 "steps_of" = true) (k2 : PySem.W.keepIn K (.ref f2) = true)
    (a3 : PySem.W.nsIn K mainGlobals "can_go" = some (some (.ref f3))) (l3 : K.lookup f3 = some ⟨oc3, od3, .func (PySem.W.fnOf "can_go" "can_go" (defArgs sCan) (defBody sCan) (defScope sCan) .none kV3 dc3 pm3 an3 cd3 ct3), sl3⟩) (c3 : PySem.W.codeIn K cd3 "can_go" = true) (k3 : PySem.W.keepIn K (.ref f3) = true)
    (a4 : PySem.W.nsIn K mainGlobals "is_sooner" = some (some (.ref f4))) (l4 : K.lookup f4 = some ⟨oc4, od4, .func (PySem.W.fnOf "is_sooner" "is_sooner" (defArgs sSooner) (defBody sSooner) (defScope sSooner) .none kV4 dc4 pm4 an4 cd4 ct4), sl4⟩) (c4 : PySem.W.codeIn K cd4 "is_sooner" = true) (k4 : PySem.W.keepIn K (.ref f4) = true)
    (a5 : PySem.W.nsIn K mainGlobals "soonest_tree" = some (some (.ref f5))) (l5 : K.lookup f5 = some ⟨oc5, od5, .func (PySem.W.fnOf "soonest_tree" "soonest_tree" (defArgs sTree) (defBody sTree) (defScope sTree) .none kV5 dc5 pm5 an5 cd5 ct5), sl5⟩) (c5 : PySem.W.codeIn K cd5 "soonest_tree" = true) (k5 : PySem.W.keepIn K (.ref f5) = true)
    (a6 : PySem.W.nsIn K mainGlobals "soonest_from" = some (some (.ref f6))) (l6 : K.lookup f6 = some ⟨oc6, od6, .func (PySem.W.fnOf "soonest_from" "soonest_from" (defArgs sFrom) (defBody sFrom) (defScope sFrom) .none kV6 dc6 pm6 an6 cd6 ct6), sl6⟩) (c6 : PySem.W.codeIn K cd6 "soonest_from" = true) (k6 : PySem.W.keepIn K (.ref f6) = true)
    (a7 : PySem.W.nsIn K mainGlobals "best_pairs" = some (some (.ref f7))) (l7 : K.lookup f7 = some ⟨oc7, od7, .func (PySem.W.fnOf "best_pairs" "best_pairs" (defArgs sBest) (defBody sBest) (defScope sBest) .none kV7 dc7 pm7 an7 cd7 ct7), sl7⟩) (c7 : PySem.W.codeIn K cd7 "best_pairs" = true) (k7 : PySem.W.keepIn K (.ref f7) = true)
    (a8 : PySem.W.nsIn K mainGlobals "turned_moment" = some (some (.ref f8))) (l8 : K.lookup f8 = some ⟨oc8, od8, .func (PySem.W.fnOf "turned_moment" "turned_moment" (defArgs sTMoment) (defBody sTMoment) (defScope sTMoment) .none kV8 dc8 pm8 an8 cd8 ct8), sl8⟩) (c8 : PySem.W.codeIn K cd8 "turned_moment" = true) (k8 : PySem.W.keepIn K (.ref f8) = true)
    (a9 : PySem.W.nsIn K mainGlobals "turned_list" = some (some (.ref f9))) (l9 : K.lookup f9 = some ⟨oc9, od9, .func (PySem.W.fnOf "turned_list" "turned_list" (defArgs sTList) (defBody sTList) (defScope sTList) .none kV9 dc9 pm9 an9 cd9 ct9), sl9⟩) (c9 : PySem.W.codeIn K cd9 "turned_list" = true) (k9 : PySem.W.keepIn K (.ref f9) = true)
    (a10 : PySem.W.nsIn K mainGlobals "latest_to" = some (some (.ref f10))) (l10 : K.lookup f10 = some ⟨oc10, od10, .func (PySem.W.fnOf "latest_to" "latest_to" (defArgs sLatest) (defBody sLatest) (defScope sLatest) .none kV10 dc10 pm10 an10 cd10 ct10), sl10⟩) (c10 : PySem.W.codeIn K cd10 "latest_to" = true) (k10 : PySem.W.keepIn K (.ref f10) = true)
    (a11 : PySem.W.nsIn K mainGlobals "_law_pool" = some (some (.ref f11))) (l11 : K.lookup f11 = some ⟨oc11, od11, .func (PySem.W.fnOf "_law_pool" "_law_pool" (defArgs sPool) (defBody sPool) (defScope sPool) .none kV11 dc11 pm11 an11 cd11 ct11), sl11⟩) (c11 : PySem.W.codeIn K cd11 "_law_pool" = true) (k11 : PySem.W.keepIn K (.ref f11) = true)
    (a12 : PySem.W.nsIn K mainGlobals "_law_next" = some (some (.ref f12))) (l12 : K.lookup f12 = some ⟨oc12, od12, .func (PySem.W.fnOf "_law_next" "_law_next" (defArgs sNext) (defBody sNext) (defScope sNext) .none kV12 dc12 pm12 an12 cd12 ct12), sl12⟩) (c12 : PySem.W.codeIn K cd12 "_law_next" = true) (k12 : PySem.W.keepIn K (.ref f12) = true)
    (a13 : PySem.W.nsIn K mainGlobals "_law_moment" = some (some (.ref f13))) (l13 : K.lookup f13 = some ⟨oc13, od13, .func (PySem.W.fnOf "_law_moment" "_law_moment" (defArgs sMoment) (defBody sMoment) (defScope sMoment) .none kV13 dc13 pm13 an13 cd13 ct13), sl13⟩) (c13 : PySem.W.codeIn K cd13 "_law_moment" = true) (k13 : PySem.W.keepIn K (.ref f13) = true)
    (a14 : PySem.W.nsIn K mainGlobals "_law_drawn_web" = some (some (.ref f14))) (l14 : K.lookup f14 = some ⟨oc14, od14, .func (PySem.W.fnOf "_law_drawn_web" "_law_drawn_web" (defArgs sDrawn) (defBody sDrawn) (defScope sDrawn) .none kV14 dc14 pm14 an14 cd14 ct14), sl14⟩) (c14 : PySem.W.codeIn K cd14 "_law_drawn_web" = true) (k14 : PySem.W.keepIn K (.ref f14) = true)
    (a15 : PySem.W.nsIn K mainGlobals "_law_steep_web" = some (some (.ref f15))) (l15 : K.lookup f15 = some ⟨oc15, od15, .func (PySem.W.fnOf "_law_steep_web" "_law_steep_web" (defArgs sSteep) (defBody sSteep) (defScope sSteep) .none kV15 dc15 pm15 an15 cd15 ct15), sl15⟩) (c15 : PySem.W.codeIn K cd15 "_law_steep_web" = true) (k15 : PySem.W.keepIn K (.ref f15) = true)
    (a16 : PySem.W.nsIn K mainGlobals "_law_scene" = some (some (.ref f16))) (l16 : K.lookup f16 = some ⟨oc16, od16, .func (PySem.W.fnOf "_law_scene" "_law_scene" (defArgs sScene) (defBody sScene) (defScope sScene) .none kV16 dc16 pm16 an16 cd16 ct16), sl16⟩) (c16 : PySem.W.codeIn K cd16 "_law_scene" = true) (k16 : PySem.W.keepIn K (.ref f16) = true)
    (a17 : PySem.W.nsIn K mainGlobals "_law_folded" = some (some (.ref f17))) (l17 : K.lookup f17 = some ⟨oc17, od17, .func (PySem.W.fnOf "_law_folded" "_law_folded" (defArgs sFolded) (defBody sFolded) (defScope sFolded) .none kV17 dc17 pm17 an17 cd17 ct17), sl17⟩) (c17 : PySem.W.codeIn K cd17 "_law_folded" = true) (k17 : PySem.W.keepIn K (.ref f17) = true)
    (a18 : PySem.W.nsIn K mainGlobals "_law_right" = some (some (.ref f18))) (l18 : K.lookup f18 = some ⟨oc18, od18, .func (PySem.W.fnOf "_law_right" "_law_right" (defArgs sRight) (defBody sRight) (defScope sRight) .none kV18 dc18 pm18 an18 cd18 ct18), sl18⟩) (c18 : PySem.W.codeIn K cd18 "_law_right" = true) (k18 : PySem.W.keepIn K (.ref f18) = true)
    (a19 : PySem.W.nsIn K mainGlobals "law" = some (some (.ref f19))) (l19 : K.lookup f19 = some ⟨oc19, od19, .func (PySem.W.fnOf "law" "law" (defArgs sLaw) (defBody sLaw) (defScope sLaw) .none kV19 dc19 pm19 an19 cd19 ct19), sl19⟩) (c19 : PySem.W.codeIn K cd19 "law" = true) (k19 : PySem.W.keepIn K (.ref f19) = true)
    (z0 : PySem.W.nsIn K mainGlobals "sorted" = some none) (z1 : PySem.W.nsIn K mainGlobals "set" = some none) (z2 : PySem.W.nsIn K mainGlobals "tuple" = some none) (z3 : PySem.W.nsIn K mainGlobals "max" = some none) (z4 : PySem.W.nsIn K mainGlobals "min" = some none) (z5 : PySem.W.nsIn K mainGlobals "range" = some none) (z6 : PySem.W.nsIn K mainGlobals "int" = some none) (z7 : PySem.W.nsIn K mainGlobals "list" = some none) (z8 : PySem.W.nsIn K mainGlobals "len" = some none) :
    ∃ fd : FuncData, (∀ (s : Shared) (v : Value), BindsTo s fd ⟨[v], []⟩ [("script", v)]) ∧ ∀ base : Heap, K.In base → base.Ns mainGlobals mg → FnOk l.prog w K mg base CX0 6 fa fd ["script"] (spLaw K) := by
  have e := hfa.symm.trans (PySem.W.mg_of X G a19)
  cases e
  have F0 := fun_mk (st := sMoments) l0 c0 k0
  have F1 := fun_mk (st := sTurned) l1 c1 k1
  have F2 := fun_mk (st := sSteps) l2 c2 k2
  have F3 := fun_mk (st := sCan) l3 c3 k3
  have F4 := fun_mk (st := sSooner) l4 c4 k4
  have F5 := fun_mk (st := sTree) l5 c5 k5
  have F6 := fun_mk (st := sFrom) l6 c6 k6
  have F7 := fun_mk (st := sBest) l7 c7 k7
  have F8 := fun_mk (st := sTMoment) l8 c8 k8
  have F9 := fun_mk (st := sTList) l9 c9 k9
  have F10 := fun_mk (st := sLatest) l10 c10 k10
  have F11 := fun_mk (st := sPool) l11 c11 k11
  have F12 := fun_mk (st := sNext) l12 c12 k12
  have F13 := fun_mk (st := sMoment) l13 c13 k13
  have F14 := fun_mk (st := sDrawn) l14 c14 k14
  have F15 := fun_mk (st := sSteep) l15 c15 k15
  have F16 := fun_mk (st := sScene) l16 c16 k16
  have F17 := fun_mk (st := sFolded) l17 c17 k17
  have F18 := fun_mk (st := sRight) l18 c18 k18
  have F19 := fun_mk (st := sLaw) l19 c19 k19
  have b0 := F0.binds (ps := ["web"]) fun _ _ _ _ _ _ us hl => match us, hl with | [_], _ => rfl
  have b1 := F1.binds (ps := ["web"]) fun _ _ _ _ _ _ us hl => match us, hl with | [_], _ => rfl
  have b2 := F2.binds (ps := ["web"]) fun _ _ _ _ _ _ us hl => match us, hl with | [_], _ => rfl
  have b3 := F3.binds (ps := ["clocks", "rest", "start", "first", "step"]) fun _ _ _ _ _ _ us hl => match us, hl with | [_, _, _, _, _], _ => rfl
  have b4 := F4.binds (ps := ["clocks", "start", "step"]) fun _ _ _ _ _ _ us hl => match us, hl with | [_, _, _], _ => rfl
  have b5 := F5.binds (ps := ["web", "rest", "start", "first"]) fun _ _ _ _ _ _ us hl => match us, hl with | [_, _, _, _], _ => rfl
  have b6 := F6.binds (ps := ["web", "rest", "start", "first"]) fun _ _ _ _ _ _ us hl => match us, hl with | [_, _, _, _], _ => rfl
  have b7 := F7.binds (ps := ["web", "rest", "start", "goal"]) fun _ _ _ _ _ _ us hl => match us, hl with | [_, _, _, _], _ => rfl
  have b8 := F8.binds (ps := ["moment"]) fun _ _ _ _ _ _ us hl => match us, hl with | [_], _ => rfl
  have b9 := F9.binds (ps := ["moments"]) fun _ _ _ _ _ _ us hl => match us, hl with | [_], _ => rfl
  have b10 := F10.binds (ps := ["web", "rest", "goal", "last"]) fun _ _ _ _ _ _ us hl => match us, hl with | [_, _, _, _], _ => rfl
  have b11 := F11.binds (ps := ["cell"]) fun _ _ _ _ _ _ us hl => match us, hl with | [_], _ => rfl
  have b12 := F12.binds (ps := ["pool", "base"]) fun _ _ _ _ _ _ us hl => match us, hl with | [_, _], _ => rfl
  have b13 := F13.binds (ps := ["pool", "size"]) fun _ _ _ _ _ _ us hl => match us, hl with | [_, _], _ => rfl
  have b14 := F14.binds (ps := ["pool", "many"]) fun _ _ _ _ _ _ us hl => match us, hl with | [_, _], _ => rfl
  have b15 := F15.binds (ps := ["pool", "many", "rest"]) fun _ _ _ _ _ _ us hl => match us, hl with | [_, _, _], _ => rfl
  have b16 := F16.binds (ps := ["pool", "least"]) fun _ _ _ _ _ _ us hl => match us, hl with | [_, _], _ => rfl
  have b17 := F17.binds (ps := ["script", "most"]) fun _ _ _ _ _ _ us hl => match us, hl with | [_, _], _ => rfl
  have b18 := F18.binds (ps := ["web", "rest", "start", "goal", "pairs", "moment"]) fun _ _ _ _ _ _ us hl => match us, hl with | [_, _, _, _, _, _], _ => rfl
  have g0 := PySem.W.mg_of X G a0
  have g1 := PySem.W.mg_of X G a1
  have g2 := PySem.W.mg_of X G a2
  have g3 := PySem.W.mg_of X G a3
  have g4 := PySem.W.mg_of X G a4
  have g5 := PySem.W.mg_of X G a5
  have g6 := PySem.W.mg_of X G a6
  have g7 := PySem.W.mg_of X G a7
  have g8 := PySem.W.mg_of X G a8
  have g9 := PySem.W.mg_of X G a9
  have g10 := PySem.W.mg_of X G a10
  have g11 := PySem.W.mg_of X G a11
  have g12 := PySem.W.mg_of X G a12
  have g13 := PySem.W.mg_of X G a13
  have g14 := PySem.W.mg_of X G a14
  have g15 := PySem.W.mg_of X G a15
  have g16 := PySem.W.mg_of X G a16
  have g17 := PySem.W.mg_of X G a17
  have g18 := PySem.W.mg_of X G a18
  have m_sorted := PySem.W.mg_none_of X G z0
  have m_set := PySem.W.mg_none_of X G z1
  have m_tuple := PySem.W.mg_none_of X G z2
  have m_max := PySem.W.mg_none_of X G z3
  have m_min := PySem.W.mg_none_of X G z4
  have m_range := PySem.W.mg_none_of X G z5
  have m_int := PySem.W.mg_none_of X G z6
  have m_list := PySem.W.mg_none_of X G z7
  have m_len := PySem.W.mg_none_of X G z8
  refine ⟨PySem.W.fnOf "law" "law" (defArgs sLaw) (defBody sLaw) (defScope sLaw) .none kV19 dc19 pm19 an19 cd19 ct19, fun s v => .of_eq rfl, fun base _ _ => ?_⟩
  have GTree := ok_tree (P := l.prog) (w := w) (base := base) F5 F2 b2 g2 F4 b4 g4 F3 b3 g3 m_sorted
  have GFrom := ok_from (P := l.prog) (w := w) (base := base) F6 F5 b5 g5 GTree
  have GBest := ok_best (P := l.prog) (w := w) (base := base) F7 F0 b0 g0 F6 b6 g6 GFrom m_sorted m_set
  have GTList := ok_tlist (P := l.prog) (w := w) (base := base) F9 F8 b8 g8
  have GLatest := ok_latest (P := l.prog) (w := w) (base := base) F10 F9 b9 g9 GTList F6 b6 g6 GFrom F1 b1 g1 m_sorted m_tuple
  have GDrawn := ok_drawn (P := l.prog) (w := w) (base := base) F14 F12 b12 g12 F13 b13 g13 m_range m_int m_min m_max m_tuple m_sorted
  have GSteep := ok_steep (P := l.prog) (w := w) (base := base) F15 F12 b12 g12 m_range m_list m_min m_max m_tuple m_sorted
  have GScene := ok_scene (P := l.prog) (w := w) (base := base) F16 F12 b12 g12 F14 b14 g14 GDrawn F15 b15 g15 GSteep m_min m_max m_len
  have GPool := ok_pool (P := l.prog) (w := w) (base := base) (k := 0) F11 m_max
  have GFolded := ok_folded (P := l.prog) (w := w) (base := base) (k := 0) F17 m_range m_len m_min m_max
  have GRight := ok_right (P := l.prog) (w := w) (base := base) F18 F6 b6 g6 GFrom F10 b10 g10 GLatest
  exact ok_law F19 F17 b17 g17 GFolded F11 b11 g11 GPool F16 b16 g16 GScene F7 b7 g7 GBest F18 b18 g18 GRight
end WM
open PySem PySem.W PyProof.Rows
set_option maxRecDepth 100000 in
set_option maxHeartbeats 0 in
theorem PySem.Challenge.cw_whenmeet_k37_whole_pairs_answer_all_holds : PySem.Challenge.rw_whenmeet_k37_whole_pairs_answer_all.Holds := by
  w_on; o_law; k_head; (case hw => w_witness2)
  k_fill
  refine L2.walk_of (l := PySem.Challenge.rw_whenmeet_k37_whole_pairs_answer_all) (n := 63) (k := 6) (x := "script") (CX := fun _ => L2.CX0) (sp := fun w => WM.spLaw _) rfl (by decide) rfl ⟨rfl, by decide, by decide⟩ (fun w h Y => PySem.W.kIn_of Y) ?F (fun _ _ a ns hl _ hS => ⟨a, ns, rfl, hS, hl, fun _ => rfl⟩) (fun _ _ _ _ _ h => h)
  case F =>
    intro w mg fa h KX G hmg
    refine' WM.all_mk KX G hmg ?a0 ?l0 ?c0 ?k0 ?a1 ?l1 ?c1 ?k1 ?a2 ?l2 ?c2 ?k2 ?a3 ?l3 ?c3 ?k3 ?a4 ?l4 ?c4 ?k4 ?a5 ?l5 ?c5 ?k5 ?a6 ?l6 ?c6 ?k6 ?a7 ?l7 ?c7 ?k7 ?a8 ?l8 ?c8 ?k8 ?a9 ?l9 ?c9 ?k9 ?a10 ?l10 ?c10 ?k10 ?a11 ?l11 ?c11 ?k11 ?a12 ?l12 ?c12 ?k12 ?a13 ?l13 ?c13 ?k13 ?a14 ?l14 ?c14 ?k14 ?a15 ?l15 ?c15 ?k15 ?a16 ?l16 ?c16 ?k16 ?a17 ?l17 ?c17 ?k17 ?a18 ?l18 ?c18 ?k18 ?a19 ?l19 ?c19 ?k19 ?z0 ?z1 ?z2 ?z3 ?z4 ?z5 ?z6 ?z7 ?z8
    (case a0 => k_is)
    (case l0 => k_is)
    (case c0 => k_is)
    (case k0 => k_is)
    (case a1 => k_is)
    (case l1 => k_is)
    (case c1 => k_is)
    (case k1 => k_is)
    (case a2 => k_is)
    (case l2 => k_is)
    (case c2 => k_is)
    (case k2 => k_is)
    (case a3 => k_is)
    (case l3 => k_is)
    (case c3 => k_is)
    (case k3 => k_is)
    (case a4 => k_is)
    (case l4 => k_is)
    (case c4 => k_is)
    (case k4 => k_is)
    (case a5 => k_is)
    (case l5 => k_is)
    (case c5 => k_is)
    (case k5 => k_is)
    (case a6 => k_is)
    (case l6 => k_is)
    (case c6 => k_is)
    (case k6 => k_is)
    (case a7 => k_is)
    (case l7 => k_is)
    (case c7 => k_is)
    (case k7 => k_is)
    (case a8 => k_is)
    (case l8 => k_is)
    (case c8 => k_is)
    (case k8 => k_is)
    (case a9 => k_is)
    (case l9 => k_is)
    (case c9 => k_is)
    (case k9 => k_is)
    (case a10 => k_is)
    (case l10 => k_is)
    (case c10 => k_is)
    (case k10 => k_is)
    (case a11 => k_is)
    (case l11 => k_is)
    (case c11 => k_is)
    (case k11 => k_is)
    (case a12 => k_is)
    (case l12 => k_is)
    (case c12 => k_is)
    (case k12 => k_is)
    (case a13 => k_is)
    (case l13 => k_is)
    (case c13 => k_is)
    (case k13 => k_is)
    (case a14 => k_is)
    (case l14 => k_is)
    (case c14 => k_is)
    (case k14 => k_is)
    (case a15 => k_is)
    (case l15 => k_is)
    (case c15 => k_is)
    (case k15 => k_is)
    (case a16 => k_is)
    (case l16 => k_is)
    (case c16 => k_is)
    (case k16 => k_is)
    (case a17 => k_is)
    (case l17 => k_is)
    (case c17 => k_is)
    (case k17 => k_is)
    (case a18 => k_is)
    (case l18 => k_is)
    (case c18 => k_is)
    (case k18 => k_is)
    (case a19 => k_is)
    (case l19 => k_is)
    (case c19 => k_is)
    (case k19 => k_is)
    (case z0 => k_is)
    (case z1 => k_is)
    (case z2 => k_is)
    (case z3 => k_is)
    (case z4 => k_is)
    (case z5 => k_is)
    (case z6 => k_is)
    (case z7 => k_is)
    (case z8 => k_is)
